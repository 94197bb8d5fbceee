import PyProof.Rows.All
import Wide.All
import OpenK.AllK
import Wide.FinOn
import HandS.ForMost
import HandS.Wide
import HandS.Strs
import HandS.DictComp
import HandS.Deep
import HandS.ExcValue
import KE.SortData
import KE.DataMinMax
import KE.LtData
import PyProof.TupleOfSeq
import PyProof.ListStr
import HandS.ExcInit
import HandS.ExcField
import HandS.ExcIs
import HandS.ExcCtx
import HandS.WordsExc
import HandS.HotCalls
import HandS.IsInst
import HandS.New
import KE.KExcIs
import HandS.Defaults
import HandS.MakeKw
import PySem.Challenge.RW_fewestbends_k02_places_darts_ways
import HandS.DictTup
import HandS.TryOnly
import HandS.Conv
import KE.KDictKeyed
import KE.KDictLaw
import HandS.TupLen
import KE.KDictDisplayH
set_option Elab.async false
set_option maxRecDepth 100000
set_option maxHeartbeats 4000000
/-! rules over data: sorted, min, of lists and tuples whose items read as data -/
namespace HD
open PySem PySem.W PySem.SeqAt PyProof.Rows L2
section
variable {prog : Program} {w : World} {A : Around} {E : Value → Shared → Prop} {s : Shared}
/-- sorted(x) is list.sort on a new list of what is collected -/
theorem sorted_gen {x : Value} {vs : List Value} {Q : Value → Shared → Prop} (hL : vs.length ≤ sizeLine)
    (hc : ∀ (E' : Value → Shared → Prop) (Q' : List Value → Shared → Prop), (∀ (h' : Heap) (tk : Nat), (∀ b o, s.heap.get? b = some o → h'.get? b = some o) → Q' vs { s with heap := h', toks := tk }) → wpAny (model prog w) A.in1 (collect x) Q' E' s)
    (body : ∀ (h' : Heap) (tk : Nat), (∀ b o, s.heap.get? b = some o → h'.get? b = some o) → ∀ E' : Value → Shared → Prop,
      wpAny (model prog w) A.in1.in1 (Builtin.«list.sort» ⟨[.ref h'.objs.size], []⟩) (fun f s' => f = .done (.ret .none) ∧ Q (.ref h'.objs.size) s') E' { s with heap := h'.push (seqObj "list" vs.toArray 0), toks := tk }) :
    wpAny (model prog w) A (call (.builtin "sorted") [x]) Q E s := by
  refine call_function_entry_kw kind_sorted plain_sorted entry_sorted (args_sorted1 _) ?_
  unfold Builtin.«sorted»
  refine wpAny_bind (m := checkCount "sorted" 1 1 _) (wpAny_pure ?_)
  refine wpAny_bind (hc _ _ fun h' tk k => ?_)
  refine wpAny_bind (wpAny_newList ?_ hL)
  have ho : (h'.push (seqObj "list" vs.toArray 0)).get? h'.objs.size = some (seqObj "list" vs.toArray 0) := Heap.get?_push_size _ rfl
  refine wpAny_bind (wpAny_holding (wpAny_call_entry_kw slot_list_sort ⟨_, ho, rfl⟩ entry_list_sort ?body (args_list_sort _)))
  case body =>
    show wpAny (model prog w) A.in1.in1 (Builtin.«list.sort» ⟨[.ref h'.objs.size], []⟩) _ _ _
    refine wpAny_mono (body h' tk k _) (fun f s' hf => ?_) fun _ _ e => e
    obtain ⟨rfl, hq⟩ := hf
    exact ⟨_, rfl, wpAny_pure ⟨_, rfl, hq⟩⟩
/-- the items of a new heap's list sorted by their data -/
theorem sorted_dataG {x : Value} {vs : List Value} {β : Type} {bs : List β} {enc : β → PyData} {R : Value → β → Prop} {Q : Value → Shared → Prop} (hL : vs.length ≤ sizeLine)
    (hc : ∀ (E' : Value → Shared → Prop) (Q' : List Value → Shared → Prop), (∀ (h' : Heap) (tk : Nat), (∀ b o, s.heap.get? b = some o → h'.get? b = some o) → Q' vs { s with heap := h', toks := tk }) → wpAny (model prog w) A.in1 (collect x) Q' E' s)
    (e : EachIs R vs bs) (er : EachIs (fun v b => ∃ as, Reads s.heap v (enc b) as) vs bs) (hal : AllAlike (bs.map enc)) (hk : Sortable (bs.map enc))
    (hu : ∀ b, b ∈ bs → A.units + 2 + (enc b).depth < cLine)
    (h : ∀ (h' : Heap) (tk : Nat) (p : Addr) (out : List Value), (∀ b o, s.heap.get? b = some o → h'.get? b = some o) → s.heap.get? p = none → (∃ n, h'.get? p = some (seqObj "list" (List.toArray out) n)) → out.length = bs.length → EachIs R out (bs.mergeSort (dataLe false enc)) → Q (.ref p) { s with heap := h', toks := tk }) :
    wpAny (model prog w) A (call (.builtin "sorted") [x]) Q E s := by
  refine sorted_gen hL hc fun h' tk k E' => ?_
  have ho : (h'.push (seqObj "list" vs.toArray 0)).get? h'.objs.size = some (seqObj "list" vs.toArray 0) := Heap.get?_push_size _ rfl
  have old : ∀ b o, s.heap.get? b = some o → b ≠ h'.objs.size := fun b o q => Nat.ne_of_lt (Heap.lt_size (k b o q))
  have hnew : s.heap.get? h'.objs.size = none := by
    cases q : s.heap.get? h'.objs.size with
    | none => rfl
    | some o => exact absurd rfl (old _ _ q)
  have kk : ∀ b o, s.heap.get? b = some o → (sortingHeap (h'.push (seqObj "list" vs.toArray 0)) h'.objs.size vs).get? b = some o := fun b o q =>
    sortingHeap_old (old b o q) (Heap.get?_push_of_some _ (k b o q))
  have er' : EachIs (fun v b => ∃ as, Reads (sortingHeap (h'.push (seqObj "list" vs.toArray 0)) h'.objs.size vs) v (enc b) as) vs bs := er.mono fun _ _ ⟨as, r⟩ => ⟨as, PyProof.Rows.Reads.keeps kk r⟩
  refine list_sort_vals (s := { s with heap := h'.push (seqObj "list" vs.toArray 0), toks := tk }) (κ := dataKind (sortingHeap (h'.push (seqObj "list" vs.toArray 0)) h'.objs.size vs) (bs.map enc)) ho
    (SortsAt.data (s := { s with heap := sortingHeap (h'.push (seqObj "list" vs.toArray 0)) h'.objs.size vs, toks := tk }) (each_map (R := fun v d => ∃ as, Reads (sortingHeap (h'.push (seqObj "list" vs.toArray 0)) h'.objs.size vs) v d as) enc er') hal hk (bound_map hu)) hL ⟨rfl, ?_⟩
  refine h _ _ _ (sortVals (dataKind (sortingHeap (h'.push (seqObj "list" vs.toArray 0)) h'.objs.size vs) (bs.map enc)) false vs vs) (fun b o q => ?_) hnew (sortedHeap_at ho) (by rw [sortVals_length false rfl]; exact e.length) (sortVals_data false e er' hal)
  have hlt := Heap.lt_size (k b o q)
  rw [sortedHeap_old (old b o q) (by rw [size_push']; exact Nat.lt_succ_of_lt hlt)]
  exact Heap.get?_push_of_some _ (k b o q)
end
/-! ### min and max of two -/
section
variable {prog : Program} {w : World} {A : Around} {E : Value → Shared → Prop} {s : Shared}
theorem call_min_two_walkH {a b : Value} {Q : Value → Shared → Prop}
    (h : wpAny (model prog w) A.in1 (pyIter (.ref s.heap.objs.size)) (fun it s₂ => ∃ I fp wr G n P St H bt, it = .ref I ∧ WalksS prog w A.in1 I fp wr G n P St ∧ St 0 s₂ ∧ (∀ b ∈ fp, b < s₂.heap.objs.size) ∧ 0 < n ∧
      (∀ b o, H.get? b = some o → b ∉ wr) ∧ (∀ b o, H.get? b = some o → s₂.heap.get? b = some o) ∧ CmpIn prog w A.in1 .Lt H P bt ∧ ∀ v s', P (argBest bt (n - 1)) v → Moved wr G s₂ s' → Q v s') E
      { s with heap := s.heap.push { cls := .type "tuple", data := .seq #[a, b] } }) :
    wpAny (model prog w) A (call (.builtin "min") [a, b]) Q E s := by
  have hname : (toString "min" ++ toString ".loop" : String) = "min.loop" := by decide
  refine call_function_tree F.kind_min F.plain_min F.entry_min (F.args_min2 _ _) ?_
  show wpAny _ A.in1 (Builtin.Builtins.bindParams "min" ["key", "default"] 0 ⟨[], []⟩ >>= _) _ _ s
  refine wpAny_bind (wpAny_of_eq (show Builtin.Builtins.bindParams "min" ["key", "default"] 0 ⟨[], []⟩ = pure [none, none] from rfl) ?_)
  show wpAny _ A.in1 (newTuple [a, b] >>= _) _ _ s
  refine wpAny_bind (wpAny_newObj_type ?_)
  refine wpAny_bind (wpAny_mono h (fun it s₂ h₂ => ?_) fun _ _ e => e)
  obtain ⟨I, fp, wr, G, n, P, St, H, bt, rfl, W, hst, hfp, hn, hw, hkeep, hcmp, hQ⟩ := h₂
  refine wpAny_bind (wpAny_newObj_type ?_)
  have hSf : s₂.heap.objs.size ∉ fp := fun hm => Nat.lt_irrefl _ (hfp _ hm)
  rw [hname]
  refine wpAny_pure ⟨plainId_quiet F.plain_min_loop _, codeAny_min_loop_firstH W H hw bt hcmp s₂.heap.objs.size hSf (fresh_in hkeep) _ hn (fun b o e => Heap.get?_push_of_some _ (hkeep b o e)) (W.frame 0 s₂ _ s₂.toks hst (Nat.le_refl _) fun b _ o e => Heap.get?_push_of_some _ e) (Heap.get?_push_size _ rfl) fun v s' hP hm => ?_⟩
  exact hQ v s' hP (Moved.drop_new (tk := s₂.toks) hm (Nat.le_refl _))
theorem min_two_data {a b : Value} {x y : PyData} {as bs : List Addr} {Q : Value → Shared → Prop} (hh : A.handled = none) (ra : Reads s.heap a x as) (rb : Reads s.heap b y bs) (ha : AlikeAll [x, y]) (hu : A.units + 1 + PyData.depthAll [x, y] < cLine)
    (h : ∀ v h' tk cs, (v = a ∨ v = b) → Reads h' v (minD x [y]) cs → (∀ b o, s.heap.get? b = some o → h'.get? b = some o) → Q v { s with heap := h', toks := tk }) :
    wpAny (model prog w) A (call (.builtin "min") [a, b]) Q E s := by
  have k0 : ∀ c o, s.heap.get? c = some o → (s.heap.push { cls := .type "tuple", data := .seq #[a, b] }).get? c = some o := fun c o e => Heap.get?_push_of_some _ e
  have hT : (s.heap.push { cls := .type "tuple", data := .seq #[a, b] }).IsTuple s.heap.objs.size #[a, b] := ⟨_, Heap.get?_push_size _ rfl, rfl, 0, rfl⟩
  have hr : ReadsAll (s.heap.push { cls := .type "tuple", data := .seq #[a, b] }) (#[a, b] : Array Value).toList [x, y] (as ++ (bs ++ [])) := .cons (Reads.keeps k0 ra) (.cons (Reads.keeps k0 rb) .nil)
  refine call_min_two_walkH (iter_tupleW (A := A.in1) hh hT fun s₂ e W st hfp hw hk => ?_)
  refine ⟨_, _, _, _, _, _, _, (s.heap.push { cls := .type "tuple", data := .seq #[a, b] }), _, rfl, W, st, hfp, Nat.zero_lt_succ 1, hw, hk, cmpIn_lt (s := { s with heap := s.heap.push { cls := .type "tuple", data := .seq #[a, b] } }) (A := A.in1) hr ha (by show A.units + 1 + _ < _; exact hu), fun v s' hP m => ?_⟩
  obtain ⟨h', tk, rfl, hk'⟩ := moved_old (s := { s with heap := s.heap.push { cls := .type "tuple", data := .seq #[a, b] } }) e rfl m
  obtain ⟨cs, r, _, _, _⟩ := readsAll_atA (xs := [x, y]) hr _ v hP
  have e2 := (argBest_fold dataLt PyData.none x [y] 1 (Nat.le_refl _)).2
  have hv : v = a ∨ v = b := by
    have hm : v ∈ [a, b] := by
      have q := List.mem_of_getElem? (l := [a, b]) (by simpa using hP)
      exact q
    simpa using hm
  exact h v h' tk cs hv (Reads.keeps hk' (by unfold minD; rw [List.take_of_length_le (by simp)] at e2; rw [← e2]; exact r)) fun b o q => hk' b o (k0 b o q)

theorem call_max_two_walkH {a b : Value} {Q : Value → Shared → Prop}
    (h : wpAny (model prog w) A.in1 (pyIter (.ref s.heap.objs.size)) (fun it s₂ => ∃ I fp wr G n P St H bt, it = .ref I ∧ WalksS prog w A.in1 I fp wr G n P St ∧ St 0 s₂ ∧ (∀ b ∈ fp, b < s₂.heap.objs.size) ∧ 0 < n ∧
      (∀ b o, H.get? b = some o → b ∉ wr) ∧ (∀ b o, H.get? b = some o → s₂.heap.get? b = some o) ∧ CmpIn prog w A.in1 .Gt H P bt ∧ ∀ v s', P (argBest bt (n - 1)) v → Moved wr G s₂ s' → Q v s') E
      { s with heap := s.heap.push { cls := .type "tuple", data := .seq #[a, b] } }) :
    wpAny (model prog w) A (call (.builtin "max") [a, b]) Q E s := by
  have hname : (toString "max" ++ toString ".loop" : String) = "max.loop" := by decide
  refine call_function_tree F.kind_max F.plain_max F.entry_max (F.args_max2 _ _) ?_
  show wpAny _ A.in1 (Builtin.Builtins.bindParams "max" ["key", "default"] 0 ⟨[], []⟩ >>= _) _ _ s
  refine wpAny_bind (wpAny_of_eq (show Builtin.Builtins.bindParams "max" ["key", "default"] 0 ⟨[], []⟩ = pure [none, none] from rfl) ?_)
  show wpAny _ A.in1 (newTuple [a, b] >>= _) _ _ s
  refine wpAny_bind (wpAny_newObj_type ?_)
  refine wpAny_bind (wpAny_mono h (fun it s₂ h₂ => ?_) fun _ _ e => e)
  obtain ⟨I, fp, wr, G, n, P, St, H, bt, rfl, W, hst, hfp, hn, hw, hkeep, hcmp, hQ⟩ := h₂
  refine wpAny_bind (wpAny_newObj_type ?_)
  have hSf : s₂.heap.objs.size ∉ fp := fun hm => Nat.lt_irrefl _ (hfp _ hm)
  rw [hname]
  refine wpAny_pure ⟨plainId_quiet F.plain_max_loop _, codeAny_max_loop_firstH W H hw bt hcmp s₂.heap.objs.size hSf (fresh_in hkeep) _ hn (fun b o e => Heap.get?_push_of_some _ (hkeep b o e)) (W.frame 0 s₂ _ s₂.toks hst (Nat.le_refl _) fun b _ o e => Heap.get?_push_of_some _ e) (Heap.get?_push_size _ rfl) fun v s' hP hm => ?_⟩
  exact hQ v s' hP (Moved.drop_new (tk := s₂.toks) hm (Nat.le_refl _))
theorem max_two_data {a b : Value} {x y : PyData} {as bs : List Addr} {Q : Value → Shared → Prop} (hh : A.handled = none) (ra : Reads s.heap a x as) (rb : Reads s.heap b y bs) (ha : AlikeAll [x, y]) (hu : A.units + 1 + PyData.depthAll [x, y] < cLine)
    (h : ∀ v h' tk cs, (v = a ∨ v = b) → Reads h' v (maxD x [y]) cs → (∀ b o, s.heap.get? b = some o → h'.get? b = some o) → Q v { s with heap := h', toks := tk }) :
    wpAny (model prog w) A (call (.builtin "max") [a, b]) Q E s := by
  have k0 : ∀ c o, s.heap.get? c = some o → (s.heap.push { cls := .type "tuple", data := .seq #[a, b] }).get? c = some o := fun c o e => Heap.get?_push_of_some _ e
  have hT : (s.heap.push { cls := .type "tuple", data := .seq #[a, b] }).IsTuple s.heap.objs.size #[a, b] := ⟨_, Heap.get?_push_size _ rfl, rfl, 0, rfl⟩
  have hr : ReadsAll (s.heap.push { cls := .type "tuple", data := .seq #[a, b] }) (#[a, b] : Array Value).toList [x, y] (as ++ (bs ++ [])) := .cons (Reads.keeps k0 ra) (.cons (Reads.keeps k0 rb) .nil)
  refine call_max_two_walkH (iter_tupleW (A := A.in1) hh hT fun s₂ e W st hfp hw hk => ?_)
  refine ⟨_, _, _, _, _, _, _, (s.heap.push { cls := .type "tuple", data := .seq #[a, b] }), _, rfl, W, st, hfp, Nat.zero_lt_succ 1, hw, hk, cmpIn_gt (s := { s with heap := s.heap.push { cls := .type "tuple", data := .seq #[a, b] } }) (A := A.in1) hr ha (by show A.units + 1 + _ < _; exact hu), fun v s' hP m => ?_⟩
  obtain ⟨h', tk, rfl, hk'⟩ := moved_old (s := { s with heap := s.heap.push { cls := .type "tuple", data := .seq #[a, b] } }) e rfl m
  obtain ⟨cs, r, _, _, _⟩ := readsAll_atA (xs := [x, y]) hr _ v hP
  have e2 := (argBest_fold (fun p q => dataLt q p) PyData.none x [y] 1 (Nat.le_refl _)).2
  have hv : v = a ∨ v = b := by
    have hm : v ∈ [a, b] := by
      have q := List.mem_of_getElem? (l := [a, b]) (by simpa using hP)
      exact q
    simpa using hm
  exact h v h' tk cs hv (Reads.keeps hk' (by unfold maxD; rw [List.take_of_length_le (by simp)] at e2; rw [← e2]; exact r)) fun b o q => hk' b o (k0 b o q)
end
/-! ### the layer's rules -/
section
variable {X : Cx}
/-- each value with what it reads as -/
def DpZ (K : PySem.W.Frag) (H : Hp) (bs : List (V × PyData)) : Prop := ∀ b ∈ bs, Dp K H b.1 b.2
theorem vals_each : ∀ {bs : List (V × PyData)} {us : List Value}, Vals (bs.map (·.1)) us → EachIs (fun v (b : V × PyData) => RelV b.1 v) us bs
  | [], _, .nil => .nil
  | _ :: _, _, .cons r t => .cons r (vals_each t)
theorem each_vals : ∀ {bs : List (V × PyData)} {us : List Value}, EachIs (fun v (b : V × PyData) => RelV b.1 v) us bs → Vals (bs.map (·.1)) us
  | _, _, .nil => .nil
  | _, _, .cons r t => .cons r (each_vals t)
theorem each_reads {pins : List (Addr × Obj)} {σ : L2.St} {H : Hp} {s : Shared} (I : Inv X pins σ H s) : ∀ {bs : List (V × PyData)} {us : List Value}, Vals (bs.map (·.1)) us → DpZ X.K H bs → EachIs (fun v (b : V × PyData) => ∃ as, Reads s.heap v b.2 as) us bs
  | [], _, .nil, _ => .nil
  | b :: _, _, .cons r t, h => .cons (Dp.reads I b.2 b.1 _ (h b List.mem_cons_self) r) (each_reads I t fun c hc => h c (List.mem_cons_of_mem _ hc))
/-- sorted(x), x a list or a tuple of data: a new list, the items by their data -/
def rSortD0 (K : PySem.W.Frag) : List V → Hp → VK → Prop := fun vs H Q => ∃ (a : Addr) (bs : List (V × PyData)), vs = [V.ref a] ∧ (SqL K H a (bs.map (·.1)) ∨ SqT K H a (bs.map (·.1))) ∧ DpZ K H bs ∧
  AllAlike (bs.map (·.2)) ∧ Sortable (bs.map (·.2)) ∧ (∀ b ∈ bs, b.2.depth ≤ 8) ∧
  ∀ p : Addr, H p = none → Q (.ref p) (upd H p (.lst ((bs.mergeSort (dataLe false (·.2))).map (·.1))))
inductive rSortD (K : PySem.W.Frag) (vs : List V) (H : Hp) (Q : VK) : Prop
  | mk (h : rSortD0 K vs H Q)
theorem cr_sortD (hu : X.A.units + 64 < cLine) : CallR X (.builtin "sorted") (rSortD X.K) := by
  intro pins s σ H vs us Q I r h
  obtain ⟨⟨a, bs, rfl, hs, hd, hal, hk, hdep, q⟩⟩ := h
  rw [Vals.ref1 r]
  have main : ∀ its : List Value, Vals (bs.map (·.1)) its → its.length ≤ sizeLine →
      (∀ (E' : Value → Shared → Prop) (Q' : List Value → Shared → Prop), (∀ (h' : Heap) (tk : Nat), (∀ b o, s.heap.get? b = some o → h'.get? b = some o) → Q' its { s with heap := h', toks := tk }) → wpAny (model X.prog X.w) X.A.in1 (collect (.ref a)) Q' E' s) →
      wpAny (model X.prog X.w) X.A (call (.builtin "sorted") [.ref a]) (EP X pins σ Q) X.xe s := by
    intro its rv hz hc
    refine sorted_dataG (R := fun v (b : V × PyData) => RelV b.1 v) (enc := fun b : V × PyData => b.2) hz hc (vals_each rv) (each_reads I rv hd) hal hk (fun b hb => by have := hdep b hb; omega) fun h' tk p out k hp ⟨n, ho⟩ hl he => ?_
    have hlen : ((bs.mergeSort (dataLe false (·.2))).map (·.1)).length ≤ sizeLine := by
      rw [List.length_map, List.length_mergeSort, ← List.length_map (f := fun b : V × PyData => b.1), rv.length]
      exact hz
    exact ⟨.ref p, upd H p (.lst ((bs.mergeSort (dataLe false (·.2))).map (·.1))), I.laidN (t' := tk) k hp (I.hok.gone hp) ⟨hlen, out, n, each_vals he, ho⟩, rfl, q p (I.hok.gone hp)⟩
  rcases hs with hs | hs
  · obtain ⟨its, rv, ⟨o, n, ho, hc, hdi, hdat⟩, hz⟩ := I.list hs
    have hz' : its.length ≤ sizeLine := by rw [← rv.length]; exact hz
    refine main its rv hz' fun E' Q' hq => wpAny_collect_seq a (.inl rfl) ho hc hdat (fun h' k => ?_) (by simpa using hz')
    simpa using hq h' s.toks k
  · obtain ⟨its, rv, ⟨o, ho, hc, n, hdat⟩, hz⟩ := I.tuple hs
    have hz' : its.length ≤ sizeLine := by rw [← rv.length]; exact hz
    refine main its rv hz' fun E' Q' hq => wpAny_collect_seq a (.inr rfl) ho hc hdat (fun h' k => ?_) (by simpa using hz')
    simpa using hq h' s.toks k

theorem minD_mem : ∀ (xs : List PyData) (x : PyData), minD x xs ∈ x :: xs
  | [], x => List.mem_cons_self
  | y :: ys, x => by
    have ih := minD_mem ys (if dataLt y x then y else x)
    show minD (if dataLt y x then y else x) ys ∈ x :: y :: ys
    rcases List.mem_cons.mp ih with e | e
    · rw [e]
      split
      · exact List.mem_cons_of_mem _ List.mem_cons_self
      · exact List.mem_cons_self
    · exact List.mem_cons_of_mem _ (List.mem_cons_of_mem _ e)
theorem maxD_mem : ∀ (xs : List PyData) (x : PyData), maxD x xs ∈ x :: xs
  | [], x => List.mem_cons_self
  | y :: ys, x => by
    have ih := maxD_mem ys (if dataLt x y then y else x)
    show maxD (if dataLt x y then y else x) ys ∈ x :: y :: ys
    rcases List.mem_cons.mp ih with e | e
    · rw [e]
      split
      · exact List.mem_cons_of_mem _ List.mem_cons_self
      · exact List.mem_cons_self
    · exact List.mem_cons_of_mem _ (List.mem_cons_of_mem _ e)
theorem readsAllZ {pins : List (Addr × Obj)} {σ : L2.St} {H : Hp} {s : Shared} (I : Inv X pins σ H s) : ∀ {bs : List (V × PyData)} {us : List Value}, Vals (bs.map (·.1)) us → DpZ X.K H bs → ∃ as, ReadsAll s.heap us (bs.map (·.2)) as
  | [], _, .nil, _ => ⟨_, .nil⟩
  | b :: _, _, .cons r t, h => by
    obtain ⟨as, h1⟩ := Dp.reads I b.2 b.1 _ (h b List.mem_cons_self) r
    obtain ⟨cs, h2⟩ := readsAllZ I t fun c hc => h c (List.mem_cons_of_mem _ hc)
    exact ⟨_, .cons h1 h2⟩
theorem depthAll_le {n : Nat} : ∀ {ds : List PyData}, (∀ d ∈ ds, d.depth ≤ n) → PyData.depthAll ds ≤ n
  | [], _ => Nat.zero_le _
  | d :: ds, h => by
    have h1 := h d List.mem_cons_self
    have h2 := depthAll_le (ds := ds) fun c hc => h c (List.mem_cons_of_mem _ hc)
    show max d.depth (PyData.depthAll ds) ≤ n
    omega
/-- min(x), max(x), x a list or a tuple of data: the item -/
def rBestD (D : PyData → List PyData → PyData) (K : PySem.W.Frag) : List V → Hp → VK → Prop := fun vs H Q => ∃ (a : Addr) (b0 : V × PyData) (bs : List (V × PyData)), vs = [V.ref a] ∧ (SqL K H a ((b0 :: bs).map (·.1)) ∨ SqT K H a ((b0 :: bs).map (·.1))) ∧ DpZ K H (b0 :: bs) ∧
  PySem.W.AlikeAll ((b0 :: bs).map (·.2)) ∧ (∀ b ∈ b0 :: bs, b.2.depth ≤ 8) ∧ ∀ b ∈ b0 :: bs, b.2 = D b0.2 (bs.map (·.2)) → Q b.1 H
/-- min(x, y), max(x, y) of data -/
def rBest2D (D : PyData → List PyData → PyData) (K : PySem.W.Frag) : List V → Hp → VK → Prop := fun vs H Q => ∃ (x y : V) (d e : PyData), vs = [x, y] ∧ Dp K H x d ∧ Dp K H y e ∧ PySem.W.AlikeAll [d, e] ∧ d.depth ≤ 8 ∧ e.depth ≤ 8 ∧
  (D d [e] = d → Q x H) ∧ (D d [e] = e → Q y H)

theorem cr_minD (hc : X.calm = true) (hu : X.A.units + 64 < cLine) : CallR X (.builtin "min") (rBestD minD X.K) := by
  intro pins s σ H vs us Q I r h
  obtain ⟨a, b0, bs, rfl, hs, hd, hal, hdep, q⟩ := h
  rw [Vals.ref1 r]
  have hda : PyData.depthAll (b0.2 :: bs.map (·.2)) ≤ 8 := depthAll_le fun d hd' => by
    obtain ⟨b, hb, rfl⟩ := List.mem_map.mp (show d ∈ (b0 :: bs).map (·.2) from hd')
    exact hdep b hb
  have hmem := minD_mem (bs.map (·.2)) b0.2
  have fin : ∀ (its : List Value), Vals ((b0 :: bs).map (·.1)) its → ∀ (i : Nat) (v : Value) (h' : Heap) (tk : Nat) (cs : List Addr), its.toArray[i]? = some v → Reads h' v (minD b0.2 (bs.map (·.2))) cs → (∀ b o, s.heap.get? b = some o → h'.get? b = some o) → EP X pins σ Q v { s with heap := h', toks := tk } := by
    intro its rv i v h' tk cs hi hr k
    have hi' : its[i]? = some v := by simpa using hi
    have hlt : i < (b0 :: bs).length := by
      have h1 := (List.getElem?_eq_some_iff.mp hi').1
      have h2 := rv.length
      rw [List.length_map] at h2
      omega
    have hb : (b0 :: bs)[i]? = some (b0 :: bs)[i] := List.getElem?_eq_getElem hlt
    have hbm : (b0 :: bs)[i] ∈ b0 :: bs := List.getElem_mem hlt
    obtain ⟨v', hv', rr⟩ := rv.get (i := i) (x := ((b0 :: bs)[i]).1) (by rw [List.getElem?_map, hb]; rfl)
    rw [hi'] at hv'
    cases hv'
    obtain ⟨as, r1⟩ := Dp.reads I _ _ v (hd _ hbm) rr
    have e := alike_unique _ _ v _ _ (hal.1 _ (List.mem_map.mpr ⟨_, hbm, rfl⟩) _ hmem) (Reads.keeps k r1) hr
    exact ⟨_, H, I.kept k, rr, q _ hbm e⟩
  rcases hs with hs | hs
  · obtain ⟨its, rv, hl, _⟩ := I.list hs
    obtain ⟨as, hr⟩ := readsAllZ I rv hd
    exact min_list_data (vs := its.toArray) (I.ok.hd hc) hl.isList (by simpa using hr) hal (by simp only [List.map] at *; omega) (fin its rv)
  · obtain ⟨its, rv, hl, _⟩ := I.tuple hs
    obtain ⟨as, hr⟩ := readsAllZ I rv hd
    exact min_tuple_data (vs := its.toArray) (I.ok.hd hc) hl (by simpa using hr) hal (by simp only [List.map] at *; omega) (fin its rv)
theorem cr_min2D (hc : X.calm = true) (hu : X.A.units + 64 < cLine) : CallR X (.builtin "min") (rBest2D minD X.K) := by
  intro pins s σ H vs us Q I r h
  obtain ⟨x, y, d, e, rfl, hx, hy, hal, hd, he, q1, q2⟩ := h
  obtain ⟨u, w', rfl, ru, rw'⟩ := vals2 r
  obtain ⟨as, r1⟩ := Dp.reads I d x u hx ru
  obtain ⟨bs, r2⟩ := Dp.reads I e y w' hy rw'
  have hda : PyData.depthAll [d, e] ≤ 8 := depthAll_le fun c hc' => by
    rcases List.mem_cons.mp hc' with rfl | hc'
    · exact hd
    · rw [List.mem_singleton.mp hc']
      exact he
  refine min_two_data (I.ok.hd hc) r1 r2 hal (by omega) fun v h' tk cs hv hr k => ?_
  have hm := minD_mem [e] d
  rcases hv with rfl | rfl
  · have z := alike_unique _ _ v _ _ (hal.1 d List.mem_cons_self _ hm) (Reads.keeps k r1) hr
    exact ⟨x, H, I.kept k, ru, q1 z.symm⟩
  · have z := alike_unique _ _ v _ _ (hal.1 e (List.mem_cons_of_mem _ List.mem_cons_self) _ hm) (Reads.keeps k r2) hr
    exact ⟨y, H, I.kept k, rw', q2 z.symm⟩

theorem cr_maxD (hc : X.calm = true) (hu : X.A.units + 64 < cLine) : CallR X (.builtin "max") (rBestD maxD X.K) := by
  intro pins s σ H vs us Q I r h
  obtain ⟨a, b0, bs, rfl, hs, hd, hal, hdep, q⟩ := h
  rw [Vals.ref1 r]
  have hda : PyData.depthAll (b0.2 :: bs.map (·.2)) ≤ 8 := depthAll_le fun d hd' => by
    obtain ⟨b, hb, rfl⟩ := List.mem_map.mp (show d ∈ (b0 :: bs).map (·.2) from hd')
    exact hdep b hb
  have hmem := maxD_mem (bs.map (·.2)) b0.2
  have fin : ∀ (its : List Value), Vals ((b0 :: bs).map (·.1)) its → ∀ (i : Nat) (v : Value) (h' : Heap) (tk : Nat) (cs : List Addr), its.toArray[i]? = some v → Reads h' v (maxD b0.2 (bs.map (·.2))) cs → (∀ b o, s.heap.get? b = some o → h'.get? b = some o) → EP X pins σ Q v { s with heap := h', toks := tk } := by
    intro its rv i v h' tk cs hi hr k
    have hi' : its[i]? = some v := by simpa using hi
    have hlt : i < (b0 :: bs).length := by
      have h1 := (List.getElem?_eq_some_iff.mp hi').1
      have h2 := rv.length
      rw [List.length_map] at h2
      omega
    have hb : (b0 :: bs)[i]? = some (b0 :: bs)[i] := List.getElem?_eq_getElem hlt
    have hbm : (b0 :: bs)[i] ∈ b0 :: bs := List.getElem_mem hlt
    obtain ⟨v', hv', rr⟩ := rv.get (i := i) (x := ((b0 :: bs)[i]).1) (by rw [List.getElem?_map, hb]; rfl)
    rw [hi'] at hv'
    cases hv'
    obtain ⟨as, r1⟩ := Dp.reads I _ _ v (hd _ hbm) rr
    have e := alike_unique _ _ v _ _ (hal.1 _ (List.mem_map.mpr ⟨_, hbm, rfl⟩) _ hmem) (Reads.keeps k r1) hr
    exact ⟨_, H, I.kept k, rr, q _ hbm e⟩
  rcases hs with hs | hs
  · obtain ⟨its, rv, hl, _⟩ := I.list hs
    obtain ⟨as, hr⟩ := readsAllZ I rv hd
    exact max_list_data (vs := its.toArray) (I.ok.hd hc) hl.isList (by simpa using hr) hal (by simp only [List.map] at *; omega) (fin its rv)
  · obtain ⟨its, rv, hl, _⟩ := I.tuple hs
    obtain ⟨as, hr⟩ := readsAllZ I rv hd
    exact max_tuple_data (vs := its.toArray) (I.ok.hd hc) hl (by simpa using hr) hal (by simp only [List.map] at *; omega) (fin its rv)
theorem cr_max2D (hc : X.calm = true) (hu : X.A.units + 64 < cLine) : CallR X (.builtin "max") (rBest2D maxD X.K) := by
  intro pins s σ H vs us Q I r h
  obtain ⟨x, y, d, e, rfl, hx, hy, hal, hd, he, q1, q2⟩ := h
  obtain ⟨u, w', rfl, ru, rw'⟩ := vals2 r
  obtain ⟨as, r1⟩ := Dp.reads I d x u hx ru
  obtain ⟨bs, r2⟩ := Dp.reads I e y w' hy rw'
  have hda : PyData.depthAll [d, e] ≤ 8 := depthAll_le fun c hc' => by
    rcases List.mem_cons.mp hc' with rfl | hc'
    · exact hd
    · rw [List.mem_singleton.mp hc']
      exact he
  refine max_two_data (I.ok.hd hc) r1 r2 hal (by omega) fun v h' tk cs hv hr k => ?_
  have hm := maxD_mem [e] d
  rcases hv with rfl | rfl
  · have z := alike_unique _ _ v _ _ (hal.1 d List.mem_cons_self _ hm) (Reads.keeps k r1) hr
    exact ⟨x, H, I.kept k, ru, q1 z.symm⟩
  · have z := alike_unique _ _ v _ _ (hal.1 e (List.mem_cons_of_mem _ List.mem_cons_self) _ hm) (Reads.keeps k r2) hr
    exact ⟨y, H, I.kept k, rw', q2 z.symm⟩
end
end HD
/-! tuples of tuples as data; what stays of them -/
namespace HD
open PySem PySem.W PyProof.Rows L2
/-- a tuple, a tuple that is known -/
def IsT : HO → Prop
  | .tup _ => True
  | .frz _ (.tup _) => True
  | _ => False
/-- the tuples stay -/
def Tm (H H' : Hp) : Prop := ∀ a u, H a = some u → IsT u → H' a = some u
theorem Tm.refl (H : Hp) : Tm H H := fun _ _ h _ => h
theorem Tm.trans {H H1 H2 : Hp} (a : Tm H H1) (b : Tm H1 H2) : Tm H H2 := fun c u h t => b c u (a c u h t) t
theorem Tm.of {H H' : Hp} (e : Same H H') : Tm H H' := fun a u h _ => e a u h
theorem Tm.upd {H : Hp} {p : Addr} {o : HO} (h : ∀ u, H p = some u → ¬ IsT u) : Tm H (L2.upd H p o) := fun a u r t => by
  have ne : a ≠ p := fun e => h u (e ▸ r) t
  rw [upd_ne ne]
  exact r
theorem Tm.new {H : Hp} {p : Addr} {o : HO} (h : H p = none) : Tm H (L2.upd H p o) := Tm.upd fun u e => by
  rw [h] at e
  cases e
theorem Tm.lst {H : Hp} {p : Addr} {ys : List V} {o : HO} (h : H p = some (.lst ys)) : Tm H (L2.upd H p o) := Tm.upd fun u e => by
  rw [h] at e
  cases e
  exact fun z => z
theorem Tm.dK {H : Hp} {p : Addr} {ys : List (Key × V)} {o : HO} (h : H p = some (.dK ys)) : Tm H (L2.upd H p o) := Tm.upd fun u e => by
  rw [h] at e
  cases e
  exact fun z => z
theorem Tm.dT {H : Hp} {p : Addr} {ys : List (List Key × V)} {o : HO} (h : H p = some (.dT ys)) : Tm H (L2.upd H p o) := Tm.upd fun u e => by
  rw [h] at e
  cases e
  exact fun z => z
theorem Tm.sqT {K : PySem.W.Frag} {H H' : Hp} (e : Tm H H') {a : Addr} {xs : List V} (h : SqT K H a xs) : SqT K H' a xs := by
  rcases h with (h | ⟨o, h⟩) | h
  · exact .inl (.inl (e _ _ h trivial))
  · exact .inl (.inr ⟨o, e _ _ h trivial⟩)
  · exact .inr h
/-- at a a tuple whose own methods may be asked -/
def FT (H : Hp) (a : Addr) (xs : List V) : Prop := ∃ o : Obj, H a = some (.frz o (.tup xs)) ∧ o.cls = .type "tuple" ∧ o.dict = none
theorem FT.sqT {K : PySem.W.Frag} {H : Hp} {a : Addr} {xs : List V} (h : FT H a xs) : SqT K H a xs := by
  obtain ⟨o, h, _⟩ := h
  exact .inl (.inr ⟨o, h⟩)
theorem FT.mono {H H' : Hp} {a : Addr} {xs : List V} (e : Tm H H') (h : FT H a xs) : FT H' a xs := by
  obtain ⟨o, h, c, d⟩ := h
  exact ⟨o, e _ _ h trivial, c, d⟩
section
variable {X : Cx} {es : List Expr} {t : TA} {pos : Pos}
/-- (a, b, ..), known -/
def tTupF (t : TA) : TE := fun σ H Q => t σ H fun xs H1 => xs.length ≤ sizeLine ∧ ∀ p (o : Obj), H1 p = none → o.cls = .type "tuple" → o.dict = none → Q (.ref p) (L2.upd H1 p (.frz o (.tup xs)))
theorem pe_tupF {x1} (h : PA X es t) : PE X (.Tuple es x1 pos) (tTupF t) := by
  refine ⟨fun pins s σ H Q I hq => ?_⟩
  refine wpAny_Tuple_spliced (thn (h.run pos pins s σ H _ I hq) fun us s1 ⟨xs, H1, I1, r, z, q⟩ => ⟨by rw [← r.length]; exact z, ?_⟩)
  have hf : H1 s1.heap.objs.size = none := I1.hok.fresh (Nat.le_refl _)
  exact ⟨.ref s1.heap.objs.size, L2.upd H1 s1.heap.objs.size (.frz _ (.tup xs)), I1.laid (t' := s1.toks) (fun b u e => Heap.get?_push_of_some _ e) (Nat.le_refl _) ⟨Heap.get?_push_size _ rfl, z, us, r, ⟨_, Heap.get?_push_size _ rfl, rfl, _, rfl⟩⟩, rfl, q _ _ hf rfl rfl⟩
/-- tuple(a list), known -/
theorem call_tuple_ofF : CallR X (.type "tuple") (fun xs H Q => ∃ p ys, xs = [.ref p] ∧ SqL X.K H p ys ∧ ∀ l (o : Obj), H l = none → o.cls = .type "tuple" → o.dict = none → Q (.ref l) (L2.upd H l (.frz o (.tup ys)))) := by
  intro pins s σ H xs us Q I r h
  obtain ⟨p, ys, rfl, hq, q⟩ := h
  obtain ⟨u, rfl, rx⟩ := vals1 r
  cases rx
  obtain ⟨its, r', pl, hz⟩ := I.list hq
  have hlen := r'.length
  refine call_tuple_list pl.isList (fun h' kp => ?_) (by simp only [List.size_toArray] <;> omega)
  have I1 : Inv X pins σ H { s with heap := h' } := I.kept (t' := s.toks) kp
  have I2 : Inv X pins σ (L2.upd H h'.objs.size (.frz _ (.tup ys))) { s with heap := h'.push { cls := .type "tuple", data := .seq its.toArray } } :=
    I1.laid (t' := s.toks) (fun b o e => Heap.get?_push_of_some _ e) (Nat.le_refl _) (show ObjOk X.prog X.w _ _ _ (.frz _ (.tup ys)) from ⟨Heap.get?_push_size _ rfl, hz, its, r', IsTup.new _ _⟩)
  exact ⟨.ref h'.objs.size, _, I2, rfl, q _ _ (I1.hok.fresh (Nat.le_refl _)) rfl rfl⟩
variable {o e : Expr} {to : TE} {name : Str} {apos cpos : Pos} {T id : String} {r : V → List V → Hp → VK → Prop}
/-- the object is known, it is a T without a dict -/
def tBMF (T : String) (r : V → List V → Hp → VK → Prop) (to : TE) (t : TA) : TE := fun σ H Q => to σ H fun x H1 => (∃ (p : Addr) (ob : Obj) (u : HO), x = .ref p ∧ H1 p = some (.frz ob u) ∧ ob.cls = .type T ∧ ob.dict = none) ∧ t σ H1 fun xs H2 => r x xs H2 Q
theorem pe_bmF (pa : PlainAttrs T) (slot : Slot T name id) (hty : typeOf (.builtin id) = pure (.type "method_descriptor")) (hm : MtR X id r) (ho : PE X o to) (ha : PA X (e :: es) t)
    (hbase : attributeBase o name X.env (eval o X.env) = eval o X.env := by rfl)
    (hfew : ((backTo cpos (starEach (e :: es) X.env)).all (fun x => !x.1) && (backToKw cpos (keywordEach [] X.env)).all (fun x => x.1.isSome)
      && decide ((e :: es).length + ([] : List Keyword).length + (if ([] : List Keyword).isEmpty then 0 else 1) < 30)) = true := by rfl)
    (hline : (apos.endLine == cpos.line) = true := by rfl) (hs : starEach (e :: es) X.env = (false, eval e X.env) :: starEach es X.env := by rfl) (hplain : (backTo cpos (starEach es X.env)).any (·.1) = false := by rfl) :
    PE X (.Call (.Attribute o name apos) (e :: es) [] cpos) (tBMF T r to t) := by
  refine ⟨fun pins s σ H Q I h => ?_⟩
  refine wpAny_Call_method_late hbase hfew hline rfl (thn (ho.run pins s σ H _ I h) fun v s1 ⟨x, H1, I1, r1, ⟨p, ob, u, ex, hp, hc, hd⟩, q1⟩ => ?_)
  subst ex
  cases r1
  have hget : s1.heap.get? p = some ob := (I1.hok p _ hp).1
  refine ⟨T, id, pa, slot, hty, ⟨ob, hget, hc⟩, fun a e => by cases e; exact ⟨ob, hget, hd⟩, ?_⟩
  have hA := ha.run cpos pins s1 σ H1 _ I1 q1
  rw [hs] at hA ⊢
  refine Calls.callWith_builtin (by show (false || (backTo cpos (starEach es X.env)).any (·.1)) = false; rw [hplain] <;> rfl) (Calls.evalArgs_plain ?_)
  exact thn hA fun us s2 ⟨vs, H2, I2, r2, q2⟩ => hm pins s2 σ H2 (.ref p) vs (.ref p) us Q I2 rfl r2 q2
end
theorem same_new {H : Hp} {p : Addr} {o : HO} (h : H p = none) : Same H (L2.upd H p o) := fun b u e => by
  rw [upd_ne (ne_of_none e h)]
  exact e
theorem _root_.L2.Same.put {H0 H : Hp} {D : Addr} {o : HO} (h : H0 D = none) (s : Same H0 H) : Same H0 (L2.upd H D o) := fun b u e => by
  rw [upd_ne (ne_of_none e h)]
  exact s b u e
theorem u65 {k : Nat} {A : Around} (hr : Room k A) : A.units + 65 < cLine := by
  have := hr.un
  omega
/-! ### the signs of a text -/
def signsV (z : Str) : List Str := z.cps.toList.map fun c => ⟨#[c]⟩
theorem signs_vals : ∀ {us : List Value} {cs : List Nat}, us.length = cs.length → (∀ (j : Nat) (v : Value), us[j]? = some v → ∃ c u, cs[j]? = some c ∧ v = .str ⟨#[c]⟩ u) → Vals ((cs.map fun c => (⟨#[c]⟩ : Str)).map V.str) us
  | [], [], _, _ => .nil
  | u :: us, c :: cs, hl, h => by
    obtain ⟨c', t, e1, e2⟩ := h 0 u rfl
    have e1' : c = c' := Option.some.inj e1
    subst e1' e2
    exact .cons ⟨t, rfl⟩ (signs_vals (by simpa using hl) fun j v e => by
      obtain ⟨c2, t2, e3, e4⟩ := h (j + 1) v (by simpa using e)
      exact ⟨c2, t2, by simpa using e3, e4⟩)
  | [], _ :: _, hl, _ => by simp at hl
  | _ :: _, [], hl, _ => by simp at hl
theorem call_list_signs {X : Cx} (hc : X.calm = true) : CallR X (.type "list") (fun xs H Q => ∃ z : Str, xs = [.str z] ∧ z.length ≤ 1000 ∧ ∀ p, H p = none → Q (.ref p) (L2.upd H p (.lst ((signsV z).map V.str)))) := by
  intro pins s σ H xs us Q I r h
  obtain ⟨z, rfl, hz, q⟩ := h
  obtain ⟨u, rfl, rx⟩ := vals1 r
  obtain ⟨t, rfl⟩ := (show ∃ t, u = Value.str z t from rx)
  have hz' : z.cps.size ≤ 1000 := hz
  refine call_list_str (I.ok.hd hc) z t (fun h' tk acc c' kp e it => ?_) (Nat.le_trans hz' (by decide))
  have hv : Vals ((signsV z).map V.str) acc.toList := signs_vals (by rw [Array.length_toList, it.1]; simp) fun j v e => by
    obtain ⟨c, u, e1, e2⟩ := it.2 j v (by rw [← Array.getElem?_toList]; exact e)
    exact ⟨c, u, by rw [Array.getElem?_toList]; exact e1, e2⟩
  refine ⟨.ref s.heap.objs.size, _, I.laid (t' := tk) kp (Nat.le_refl _) (show ObjOk X.prog X.w _ h' _ (.lst ((signsV z).map V.str)) from ⟨?_, acc.toList, c', hv, by rw [Array.toArray_toList]; exact e⟩), rfl, q _ (I.hok.fresh (Nat.le_refl _))⟩
  unfold signsV
  rw [List.length_map, List.length_map, Array.length_toList]
  exact Nat.le_trans hz' (by decide)
/-! ### a rest in between -/
section
variable {X : Cx}
def tMidT (t : TT) : TT := fun σ H Q => ∃ R : Bool → Hp → Prop, t σ H R ∧ ∀ b H', R b H' → Q b H'
theorem pt_mid {e : Expr} {t : TT} (h : PT X e t) : PT X e (tMidT t) := ⟨fun pins s σ H _ I z => by
  obtain ⟨R, y, q⟩ := z
  exact thn (h.run pins s σ H R I y) fun b _ ⟨H1, J, r⟩ => ⟨H1, J, q b H1 r⟩⟩
def tMid (t : TE) : TE := fun σ H Q => ∃ R : VK, t σ H R ∧ ∀ v H', R v H' → Q v H'
theorem pe_mid {e : Expr} {t : TE} (h : PE X e t) : PE X e (tMid t) := ⟨fun pins s σ H _ I z => by
  obtain ⟨R, y, q⟩ := z
  exact thn (h.run pins s σ H R I y) fun _ _ ⟨v, H1, J, rv, r⟩ => ⟨v, H1, J, rv, q v H1 r⟩⟩
def tMidS (t : TS) : TS := fun D σ H => ∃ N : L2.St → Hp → Prop, t { D with nx := N } σ H ∧ ∀ σ' H', N σ' H' → D.nx σ' H'
theorem ps_mid {st : Stmt} {t : TS} (h : PS X st t) : PS X st (tMidS t) := ⟨fun pins s σ H D I z => by
  obtain ⟨N, y, q⟩ := z
  refine thn (h.run pins s σ H _ I y) fun f s' r => ?_
  cases f with
  | next => obtain ⟨σ', H', J, n⟩ := r; exact ⟨σ', H', J, q σ' H' n⟩
  | brk => exact r
  | cont => exact r
  | ret u => exact r⟩
end
/-- texts, one below the other -/
def rLtS : R2 := fun x y H Q => ∃ i j : Str, x = .str i ∧ y = .str j ∧ Q (.bl (decide (i.cps.toList < j.cps.toList))) H
mutual
/-- data without lists -/
inductive Td (K : PySem.W.Frag) (H : Hp) : V → PyData → Prop
  | non : Td K H .non .none
  | bl (b : Bool) : Td K H (.bl b) (.bool b)
  | int (i : Int) : Td K H (.int i) (.int i)
  | str (x : Str) : Td K H (.str x) (.str x)
  | tup {a : Addr} {xs : List V} {ds : List PyData} : SqT K H a xs → TdAll K H xs ds → Td K H (.ref a) (.tuple ds)
inductive TdAll (K : PySem.W.Frag) (H : Hp) : List V → List PyData → Prop
  | nil : TdAll K H [] []
  | cons {v : V} {vs : List V} {d : PyData} {ds : List PyData} : Td K H v d → TdAll K H vs ds → TdAll K H (v :: vs) (d :: ds)
end
section
variable {K : PySem.W.Frag} {H H' : Hp}
mutual
theorem Td.dp : ∀ {d : PyData} {v : V}, Td K H v d → Dp K H v d
  | _, _, .non => .non
  | _, _, .bl b => .bl b
  | _, _, .int i => .int i
  | _, _, .str x => .str x
  | _, _, .tup h t => .tup h (TdAll.dp t)
theorem TdAll.dp : ∀ {ds : List PyData} {vs : List V}, TdAll K H vs ds → DpAll K H vs ds
  | _, _, .nil => .nil
  | _, _, .cons h t => .cons (Td.dp h) (TdAll.dp t)
end
mutual
theorem Td.mono (e : Tm H H') : ∀ {d : PyData} {v : V}, Td K H v d → Td K H' v d
  | _, _, .non => .non
  | _, _, .bl b => .bl b
  | _, _, .int i => .int i
  | _, _, .str x => .str x
  | _, _, .tup h t => .tup (e.sqT h) (TdAll.mono e t)
theorem TdAll.mono (e : Tm H H') : ∀ {ds : List PyData} {vs : List V}, TdAll K H vs ds → TdAll K H' vs ds
  | _, _, .nil => .nil
  | _, _, .cons h t => .cons (Td.mono e h) (TdAll.mono e t)
end
theorem TdAll.length : ∀ {vs : List V} {ds : List PyData}, TdAll K H vs ds → vs.length = ds.length
  | _, _, .nil => rfl
  | _, _, .cons _ t => congrArg (· + 1) (TdAll.length t)
theorem TdAll.get : ∀ {vs : List V} {ds : List PyData} {i : Nat} {v : V}, TdAll K H vs ds → vs[i]? = some v → ∃ d, ds[i]? = some d ∧ Td K H v d
  | _, _, _, _, .nil, e => by simp at e
  | _, _, 0, _, .cons h _, e => by
    have e := Option.some.inj (show some _ = some _ from e)
    subst e
    exact ⟨_, rfl, h⟩
  | _, _, i + 1, _, .cons _ t, e => TdAll.get (i := i) t (by simpa using e)
theorem TdAll.get2 : ∀ {vs : List V} {ds : List PyData} {i : Nat} {d : PyData}, TdAll K H vs ds → ds[i]? = some d → ∃ v, vs[i]? = some v ∧ Td K H v d
  | _, _, _, _, .nil, e => by simp at e
  | _, _, 0, _, .cons h _, e => by
    have e := Option.some.inj (show some _ = some _ from e)
    subst e
    exact ⟨_, rfl, h⟩
  | _, _, i + 1, _, .cons _ t, e => TdAll.get2 (i := i) t (by simpa using e)
theorem TdAll.append : ∀ {vs ws : List V} {ds es : List PyData}, TdAll K H vs ds → TdAll K H ws es → TdAll K H (vs ++ ws) (ds ++ es)
  | _, _, _, _, .nil, h => h
  | _, _, _, _, .cons h t, q => .cons h (TdAll.append t q)
theorem TdAll.strs : ∀ (xs : List Str), TdAll K H (xs.map V.str) (xs.map .str)
  | [] => .nil
  | x :: xs => .cons (.str x) (TdAll.strs xs)
theorem TdAll.strs_inv : ∀ {xs : List Str} {vs : List V}, TdAll K H vs (xs.map .str) → vs = xs.map V.str
  | [], _, .nil => rfl
  | x :: xs, _, .cons h t => by
    cases h
    rw [TdAll.strs_inv t]
    rfl
theorem Td.str_inv {x : Str} {v : V} (h : Td K H v (.str x)) : v = .str x := by
  cases h
  rfl
theorem Td.int_inv {x : Int} {v : V} (h : Td K H v (.int x)) : v = .int x := by
  cases h
  rfl
theorem Td.tup_inv {ds : List PyData} {v : V} (h : Td K H v (.tuple ds)) : ∃ a xs, v = .ref a ∧ SqT K H a xs ∧ TdAll K H xs ds := by
  cases h with
  | tup h t => exact ⟨_, _, rfl, h, t⟩
theorem TdAll.nil_inv {vs : List V} (h : TdAll K H vs []) : vs = [] := by
  cases h
  rfl
theorem TdAll.cons_inv {vs : List V} {d : PyData} {ds : List PyData} (h : TdAll K H vs (d :: ds)) : ∃ v ws, vs = v :: ws ∧ Td K H v d ∧ TdAll K H ws ds := by
  cases h with
  | cons h t => exact ⟨_, _, rfl, h, t⟩
/-- a pair -/
theorem Td.pair_inv {d e : PyData} {v : V} (h : Td K H v (.tuple [d, e])) : ∃ a x y, v = .ref a ∧ SqT K H a [x, y] ∧ Td K H x d ∧ Td K H y e := by
  obtain ⟨a, xs, rfl, hs, h1⟩ := h.tup_inv
  obtain ⟨x, ws, rfl, hx, h2⟩ := h1.cons_inv
  obtain ⟨y, zs, rfl, hy, h3⟩ := h2.cons_inv
  rw [h3.nil_inv] at hs
  exact ⟨a, x, y, rfl, hs, hx, hy⟩
/-- a tuple of texts -/
theorem Td.strs_inv {xs : List Str} {v : V} (h : Td K H v (.tuple (xs.map .str))) : ∃ a, v = .ref a ∧ SqT K H a (xs.map V.str) := by
  obtain ⟨a, ys, rfl, hs, t⟩ := h.tup_inv
  rw [t.strs_inv] at hs
  exact ⟨a, rfl, hs⟩
theorem tdAll_of {ds : List PyData} : ∀ {vs : List V}, vs.length = ds.length → (∀ (i : Nat) (v : V) (d : PyData), vs[i]? = some v → ds[i]? = some d → Td K H v d) → TdAll K H vs ds := by
  induction ds with
  | nil =>
    intro vs hl _
    rw [List.length_eq_zero_iff.mp hl]
    exact .nil
  | cons d ds ih =>
    intro vs hl h
    cases vs with
    | nil => simp at hl
    | cons v vs => exact .cons (h 0 v d rfl rfl) (ih (by simpa using hl) fun i v d h1 h2 => h (i + 1) v d (by simpa using h1) (by simpa using h2))
end
/-! ### walks of comprehensions, the body of any form -/
section
variable {K : PySem.W.Frag} {a : Addr} {xs : List V} {H0 : Hp} {Qd : Hp → Prop}
theorem itl_by {B : V → Hp → (Hp → Prop) → Prop} (Pv : Nat → Hp → Prop) (h0 : Pv 0 H0) (hl : ∀ i H, i ≤ xs.length → Pv i H → SqL K H a xs) (hs : ∀ i x H, xs[i]? = some x → Pv i H → B x H (Pv (i + 1))) (hd : ∀ H, Pv xs.length H → Qd H) :
    ∃ W : Nat → Nat → Hp → Prop, (∃ m, W 0 m H0) ∧ ∀ i m H, W i m H → ((Itl K a).stop i H ∧ Qd H) ∨ ((Itl K a).go i H ∧ ∃ Nx : Hp → Prop, (∀ H', Nx H' → ∃ m', m' < m ∧ W (i + 1) m' H') ∧ ∀ x H', (Itl K a).yld i H x H' → B x H' Nx) := by
  refine ⟨fun i m H => m = xs.length - i ∧ i ≤ xs.length ∧ Pv i H, ⟨xs.length, by simp, Nat.zero_le _, h0⟩, ?_⟩
  rintro i m H ⟨rfl, hi, p⟩
  have q := hl i H hi p
  by_cases hlt : i < xs.length
  · refine .inr ⟨⟨xs, xs[i], q, by simp [hlt]⟩, Pv (i + 1), fun H' p' => ⟨xs.length - (i + 1), by omega, rfl, hlt, p'⟩, fun x H' y => ?_⟩
    obtain ⟨e, y⟩ := y
    subst e
    exact hs i x _ (y xs q) p
  · have e : i = xs.length := by omega
    subst e
    exact .inl ⟨⟨xs, q, Nat.le_refl _⟩, hd H p⟩
theorem itt_by {B : V → Hp → (Hp → Prop) → Prop} (Pv : Nat → Hp → Prop) (h0 : Pv 0 H0) (hl : ∀ i H, i ≤ xs.length → Pv i H → SqT K H a xs) (hs : ∀ i x H, xs[i]? = some x → Pv i H → B x H (Pv (i + 1))) (hd : ∀ H, Pv xs.length H → Qd H) :
    ∃ W : Nat → Nat → Hp → Prop, (∃ m, W 0 m H0) ∧ ∀ i m H, W i m H → ((Itt K a).stop i H ∧ Qd H) ∨ ((Itt K a).go i H ∧ ∃ Nx : Hp → Prop, (∀ H', Nx H' → ∃ m', m' < m ∧ W (i + 1) m' H') ∧ ∀ x H', (Itt K a).yld i H x H' → B x H' Nx) := by
  refine ⟨fun i m H => m = xs.length - i ∧ i ≤ xs.length ∧ Pv i H, ⟨xs.length, by simp, Nat.zero_le _, h0⟩, ?_⟩
  rintro i m H ⟨rfl, hi, p⟩
  have q := hl i H hi p
  by_cases hlt : i < xs.length
  · refine .inr ⟨⟨xs, xs[i], q, by simp [hlt]⟩, Pv (i + 1), fun H' p' => ⟨xs.length - (i + 1), by omega, rfl, hlt, p'⟩, fun x H' y => ?_⟩
    obtain ⟨e, y⟩ := y
    subst e
    exact hs i x _ (y xs q) p
  · have e : i = xs.length := by omega
    subst e
    exact .inl ⟨⟨xs, q, Nat.le_refl _⟩, hd H p⟩
theorem itr_by {lo : Int} {n : Nat} {B : V → Hp → (Hp → Prop) → Prop} (Pv : Nat → Hp → Prop) (h0 : Pv 0 H0) (hs : ∀ (i : Nat) H, i < n → Pv i H → B (.int (lo + i)) H (Pv (i + 1))) (hd : ∀ H, Pv n H → Qd H) :
    ∃ W : Nat → Nat → Hp → Prop, (∃ m, W 0 m H0) ∧ ∀ i m H, W i m H → ((Itr lo n).stop i H ∧ Qd H) ∨ ((Itr lo n).go i H ∧ ∃ Nx : Hp → Prop, (∀ H', Nx H' → ∃ m', m' < m ∧ W (i + 1) m' H') ∧ ∀ x H', (Itr lo n).yld i H x H' → B x H' Nx) := by
  refine ⟨fun i m H => m = n - i ∧ i ≤ n ∧ Pv i H, ⟨n, by simp, Nat.zero_le _, h0⟩, ?_⟩
  rintro i m H ⟨rfl, hi, p⟩
  by_cases hlt : i < n
  · refine .inr ⟨hlt, Pv (i + 1), fun H' p' => ⟨n - (i + 1), by omega, rfl, hlt, p'⟩, fun x H' y => ?_⟩
    obtain ⟨e, y⟩ := y
    subst e y
    exact hs i _ hlt p
  · have e : i = n := by omega
    subst e
    exact .inl ⟨Nat.le_refl _, hd H p⟩
end
/-! ### texts in order -/
/-- as Python compares texts -/
def leS (a b : Str) : Bool := decide (a.cps.toList ≤ b.cps.toList)
def ltS (a b : Str) : Bool := decide (a.cps.toList < b.cps.toList)
def sortS (xs : List Str) : List Str := xs.mergeSort leS
theorem alike_strs : ∀ xs ys : List Str, alikeAll (xs.map .str) (ys.map .str) = true
  | [], _ => by simp [alikeAll]
  | _ :: _, [] => by simp [alikeAll]
  | x :: xs, y :: ys => by
    have ih := alike_strs xs ys
    simp only [List.map_cons, alikeAll, alike, ih, Bool.and_self]
theorem sortS_perm (xs : List Str) : (sortS xs).Perm xs := List.mergeSort_perm xs leS
theorem sortS_len (xs : List Str) : (sortS xs).length = xs.length := List.length_mergeSort xs
/-- the layer's sorted items of texts -/
theorem sort_strs (xs : List Str) : (((xs.map fun x => (V.str x, PyData.str x)).mergeSort (dataLe false (·.2))).map (·.1)) = (sortS xs).map V.str := by
  have e : (xs.map fun x => (V.str x, PyData.str x)).mergeSort (dataLe false (·.2)) = (sortS xs).map fun x => (V.str x, PyData.str x) := by
    unfold sortS
    refine (List.map_mergeSort (f := fun x => (V.str x, PyData.str x)) ?_).symm
    intro a _ b _
    have := congrFun (congrFun (dataLe_str (β := Str) fun x => x) a) b
    exact this.symm
  rw [e, List.map_map]
  rfl
theorem sortD_strs {K : PySem.W.Frag} {H : Hp} {a : Addr} {xs : List Str} {Q : VK} (hs : SqL K H a (xs.map V.str) ∨ SqT K H a (xs.map V.str)) (q : ∀ p, H p = none → Q (.ref p) (L2.upd H p (.lst ((sortS xs).map V.str)))) : rSortD K [.ref a] H Q := by
  refine ⟨⟨a, xs.map fun x => (V.str x, PyData.str x), rfl, ?_, ?_, ?_, ?_, ?_, fun p hp => ?_⟩⟩
  · rw [List.map_map]
    exact hs
  · intro b hb
    obtain ⟨x, _, rfl⟩ := List.mem_map.mp hb
    exact .str x
  · rw [List.map_map]
    exact AllAlike.of (enc := fun x => PyData.str x) fun b b' => rfl
  · rw [List.map_map]
    exact Sortable.others (enc := fun x => PyData.str x) fun b => ⟨fun e => (by cases e), fun xs e => (by cases e)⟩
  · intro b hb
    obtain ⟨x, _, rfl⟩ := List.mem_map.mp hb
    exact Nat.zero_le _
  · rw [sort_strs]
    exact q p hp
def encD (d : Str × Str) : PyData := .tuple [.str d.1, .str d.2]
theorem td_dart {K : PySem.W.Frag} {H : Hp} {a : Addr} {d : Str × Str} (h : SqT K H a [.str d.1, .str d.2]) : Td K H (.ref a) (encD d) := .tup h (.cons (.str _) (.cons (.str _) .nil))
theorem td_dart_inv {K : PySem.W.Frag} {H : Hp} {v : V} {d : Str × Str} (h : Td K H v (encD d)) : ∃ a, v = .ref a ∧ SqT K H a [.str d.1, .str d.2] := by
  obtain ⟨a, x, y, rfl, hs, hx, hy⟩ := h.pair_inv
  rw [hx.str_inv, hy.str_inv] at hs
  exact ⟨a, rfl, hs⟩
/-! ### defs of the text -/
structure Df (K : PySem.W.Frag) (mg : Str → Option Value) (nm : Str) (st : Stmt) (ps : List Str) where
  f : Addr
  fd : FuncData
  F : Fun K nm nm st f fd
  b : Binds K fd ps []
  m : mg nm = some (.ref f)
end HD
/-! own errors with an __init__, their context kept; defs that a suite calls with the error in hand -/
namespace HX
open PySem PySem.Spec PyProof.Rows L2 L2H HotX
/-- a def that may raise, by its body (the context of what it raises is told) -/
theorem okN {P : Program} {w : World} {K : PySem.W.Frag} {mg : Str → Option Value} {base : Heap} {x qual : Str} {st : Stmt} {f : Addr} {fd : FuncData} {N ps : List Str} {k : Nat} {sp : Sp} (F : Fun K x qual st f fd) (S : FnScope N ps (defScope st)) (len : ∀ vs H Q E, sp vs H Q E → vs.length = ps.length)
    (hbody : ∀ (cdv : Value) (A : Around) (outer : List Env) (s : Shared) (H : Hp) (vs : List V) (Q : VK) (E : XK), Room k (A.deeper (envOfC qual (defScope st) s.heap.objs.size f cdv)) → sp vs H Q E →
      ∃ t, PSs (cxOf (L2N.CX P w) P w K mg base N qual (defScope st) f cdv A outer s H E) (defBody st) t ∧ t { nx := fun _ H' => Q .non H', rt := Q } (L2.start N vs) H) : FnOk P w K mg base (L2N.CX P w) (k + 1) f fd ps sp := by
  obtain ⟨oc, od, kV, doc, pm, an, cdv, ct, osl, rfl, lk, hcd⟩ := F.ex
  exact fn_of lk hcd S len (fun A outer s H vs Q E r z => hbody cdv A outer s H vs Q E r z)
/-- a def that may raise, called where it doesn't -/
theorem passN0 {X : Cx} {P : Program} {w : World} : Passes (L2N.CX P w) X E0 := fun _ _ _ _ _ _ _ h => by
  obtain ⟨_, _, _, _, _, _, _, _, _, _, _, _, z⟩ := h
  exact z.elim
theorem roomH_at {k : Nat} {A : Around} (r : Room k A) (h : Option Value) : L2H.RoomH k (A.mark h) := ⟨r.dp, r.un⟩
theorem takesN0 {X : Cx} : L2N.Takes X (fun _ _ _ _ => False) := fun _ _ h => by
  obtain ⟨_, _, _, _, _, _, _, _, _, _, _, _, _, _, _, _, z⟩ := h
  exact z.elim
/-- C(e, ..), an own exception with an __init__ -/
theorem pmkN {X : Cx} {CX : CXT} {x : Str} {e : Expr} {es : List Expr} {ta : TA} {p pos : Pos} {C fI : Addr} {k : Nat} {fd : FuncData} {ps : List Str} {sp : Sp} (T : OexC X.K C) (iC : PySem.W.findIn X.K (.ref C) "__init__" = some (some (.ref fI))) (tI : PySem.W.typeIn X.K (.ref fI) = some (.type "function"))
    (F1 : FnOk X.prog X.w X.K X.mg X.base CX k fI fd ps sp) (hr : Room (k + 1) X.A) (hb : Binds X.K fd ps []) (hx : Passes CX X (fun _ _ _ => False)) (hg : Gl X x) (hm : X.mg x = some (.ref C)) (ha : PA X (e :: es) ta)
    (hdb : (x == ("__debug__" : Str)) = false := by decide) (he : starEach (e :: es) X.env = (false, eval e X.env) :: starEach es X.env := by rfl) (hpl : (backTo pos (starEach es X.env)).any (·.1) = false := by rfl) :
    L2N.PMk X (.Call (.Name x p) (e :: es) [] pos) (tMkO C sp [] ta) := by
  intro pins s σ H Q I h
  have r0 := raises_own T.exC T.tyC
  obtain ⟨nm, q, N, bs, bm, sn, sub, ab, col, dd, k0, k1, k2, k3, k5, hC, hbm⟩ := T.cls
  refine wpAny_Call_Name_kw (ld_glob I hg hm ?_ hdb)
  refine PySem.W.callWith_K (h₀ := X.base) I.ok.mod.kin T.kC (thn (ha.run pos pins s σ H _ I h) fun us s1 ⟨vs, H1, I1, r1, hz, q1⟩ => ⟨I1.kIn, ?_⟩) he hpl
  obtain ⟨hp, g, dr, tk, os⟩ := s1
  let h2 : Heap := (hp.push (PySem.W.kdv_tup us)).push (PySem.HandSPX.excO C hp.objs.size)
  have n1 : hp.objs.size ≤ hp.objs.size + 1 := Nat.le_succ _
  have q2 := q1 (hp.objs.size + 1) (I1.hok.fresh n1)
  rw [List.append_nil] at q2
  have kk : ∀ b o, hp.get? b = some o → h2.get? b = some o := fun b o z => Heap.get?_push_of_some _ (Heap.get?_push_of_some _ z)
  have hget : h2.get? (hp.objs.size + 1) = some (PySem.HandSPX.excO C hp.objs.size) := by show ((hp.push _).push _).get? _ = _; heap_get
  have I2 : Inv X pins σ (upd H1 (hp.objs.size + 1) (exo (hp.objs.size + 1) C none)) ⟨h2, g, dr, tk, os⟩ := I1.laid (t' := tk) (a := hp.objs.size + 1) kk n1 (exo_ok hget)
  have r2 : Vals (V.ref (hp.objs.size + 1) :: vs) (Value.ref (hp.objs.size + 1) :: us) := .cons rfl r1
  have l2 : (Value.ref (hp.objs.size + 1) :: us ++ []).length = ps.length := by
    rw [List.append_nil, ← r2.length]
    exact F1.len _ _ _ _ q2
  have b2 := hb ⟨h2, g, dr, tk, os⟩ (Value.ref (hp.objs.size + 1) :: us) I2.kIn l2
  rw [List.append_nil] at b2
  have lus : us.length ≤ sizeLine := by rw [← Paired.length r1, sizeLine_eq]; omega
  show wpAny _ _ (call (.ref C) us) _ _ _
  refine wpAny_call (PySem.HandSPX.call_own F.excBase_ValueError (fun Y => PySem.HandSPX.refsVE_contains Y bm hbm) (I1.kIn _ _ hC) (PySem.W.looks_findIn I1.kIn iC) (fun self => PySem.W.bind_fn I1.kIn self tI) lus
    (codeAny_mono (F1.run _ X.stack _ _ ⟨Value.ref (hp.objs.size + 1) :: us, []⟩ (Value.ref (hp.objs.size + 1) :: us) _ _ (fun _ _ _ => False) (hr.make C us []) (I2.env0.make C us []) b2 r2 q2) fun r s' z => ?_))
  cases r with
  | error er => exact hx pins σ _ _ er s' I2 z
  | ok fl =>
    cases fl with
    | next => exact False.elim z
    | brk => exact False.elim z
    | cont => exact False.elim z
    | ret u =>
      obtain ⟨v, H2, os2, bare2, un2, hok2, rv, rfl, d, fs, ea, ed, hd1, q3⟩ := z
      obtain ⟨h3, g2, d2, t2, os'⟩ := s'
      obtain ⟨t0, G, J, kG, ge, hoe, na⟩ := mk_end0 (d2 := d2) (t2 := t2) I1 n1 kk un2 hok2 os2 bare2 ea ed hd1
      exact ⟨rv, hp.objs.size + 1, _, _, ⟨G, g2, d2, t2, os'⟩, _, .ref C, some d, rfl, J, kG, ge, hoe, ⟨rfl, rfl, fun vs hv => by cases hv; rfl⟩, rfl, rfl, na, rfl, bare2, r0, q3⟩
/-- what a def promises that a suite calls, the handled exception p told -/
structure FnP (P : Program) (w : World) (K : PySem.W.Frag) (mg : Str → Option Value) (base : Heap) (k : Nat) (f : Addr) (fd : FuncData) (ps : List Str) (sp : Addr → Value → Option Addr → List V → Hp → VK → Prop) : Prop where
  len : ∀ a c d vs H Q, sp a c d vs H Q → vs.length = ps.length
  run : ∀ (A : Around) (outer : List Env) (s : Shared) (H : Hp) (args : Args) (us : List Value) (vs : List V) (Q : VK) (p : Addr × Obj) (c : Value) (d : Option Addr), RoomH k A → Hot1 A p → Zc c d p.2 → PinOk outer H s p → Env0 P w K mg base A outer s H → BindsTo s fd args (ps.zip us) → Vals vs us → sp p.1 c d vs H Q →
    codeAny (model P w) A (.call (.ref f) args) (CR CX0 outer P w H s Q E0) s
theorem okP {P : Program} {w : World} {K : PySem.W.Frag} {mg : Str → Option Value} {base : Heap} {x qual : Str} {st : Stmt} {f : Addr} {fd : FuncData} {N ps : List Str} {k : Nat} {sp : Addr → Value → Option Addr → List V → Hp → VK → Prop} (F : Fun K x qual st f fd) (S : FnScope N ps (defScope st)) (len : ∀ a c d vs H Q, sp a c d vs H Q → vs.length = ps.length)
    (hbody : ∀ (cdv : Value) (A : Around) (outer : List Env) (s : Shared) (H : Hp) (vs : List V) (Q : VK) (p : Addr × Obj) (c : Value) (d : Option Addr), Hot1 A p → Zc c d p.2 → RoomH k (A.deeper (envOfC qual (defScope st) s.heap.objs.size f cdv)) → sp p.1 c d vs H Q →
      ∃ t, PSs (cxH CX0 P w K mg base N qual (defScope st) f cdv A outer s H E0 p) (defBody st) t ∧ t { nx := fun _ H' => Q .non H', rt := Q } (L2.start N vs) H) : FnP P w K mg base (k + 1) f fd ps sp := by
  obtain ⟨oc, od, kV, doc, pm, an, cdv, ct, osl, rfl, lk, hcd⟩ := F.ex
  refine ⟨len, fun A outer s H args us vs Q p c d hr hot hz hpin e0 hb r hsp => ?_⟩
  have hl := len _ _ _ _ _ _ hsp
  have up : ∀ (b : Addr) (o : Obj), base.get? b = some o → s.heap.get? b = some o := fun b o z => (e0.bs b o z).1
  have KX : K.In s.heap := e0.mod.kin.keeps up
  have lim : s.heap.NoLimit := e0.mod.nolimit.keeps up
  refine codeAny_call_function hr.depth (KX _ _ lk) rfl S.co S.gen rfl (PySem.W.codeRec_of KX hcd) (hb _ _ _ _ ?_)
  refine wpAny_newFunctionEnv_cells S.kind (fun ⟨n, v⟩ hy => ?_) fun env he s1 x1 => ?_
  · rcases S.par n (List.of_mem_zip hy).1 with z | z
    · exact .inl z
    · exact .inr ⟨z, PySem.W.cellsFrom_some _ _ _ (.inl z)⟩
  subst he
  obtain ⟨t, ht, hq⟩ := hbody cdv A outer s H vs Q p c d hot hz (hr.deeper _) hsp
  have I := inv_startH (CX := CX0) (E := E0) S hpin e0 hl r x1
  refine ⟨lim.keeps x1.toInCall.keep, codeAny_func ?_⟩
  refine wpAny_mono (ht.run [] s1 (L2.start N vs) H _ I hq) (fun fl s2 z => ?_) fun _ _ z => z
  cases fl with
  | ret u => obtain ⟨v, σ2, H2, J, rv, y⟩ := z; exact ⟨v, H2, J.os, J.bare, J.base, J.hok, rv, y⟩
  | next => obtain ⟨σ2, H2, J, y⟩ := z; exact ⟨.non, H2, J.os, J.bare, J.base, J.hok, rfl, y⟩
  | brk => obtain ⟨_, _, _, y⟩ := z; exact y.elim
  | cont => obtain ⟨_, _, _, y⟩ := z; exact y.elim
section
variable {X : Cx} {CX : CXT} {k : Nat} {f : Addr} {fd : FuncData} {ps ks : List Str} {sp : Sp} {E : XK} {x : Str} {p pos : Pos} {kws : List Keyword} {tk : TA} {g : List Value → List Value → List Value} {gV : List V → List V → List V}
/-- f(k = v, ..), nothing by position -/
theorem pe_callK00 (F : FnOk X.prog X.w X.K X.mg X.base CX k f fd ps sp) (hr : Room k X.A) (hg : Gl X x) (hm : X.mg x = some (.ref f)) (hk : PySem.W.keepIn X.K (.ref f) = true) (hb : KBinds X.K fd ps ks g gV) (hx : Passes CX X E)
    (hkw : PK X kws tk) (hall : (backToKw pos (keywordEach kws X.env)).all (·.1.isSome) = true := by rfl) (hks : (backToKw pos (keywordEach kws X.env)).filterMap (·.1) = ks := by rfl)
    (hdb : (x == ("__debug__" : Str)) = false := by decide) (hpl : ((backTo pos (starEach [] X.env)).any (·.1) || (backToKw pos (keywordEach kws X.env)).any (·.1.isNone)) = false := by rfl) :
    PE X (.Call (.Name x p) [] kws pos) (fun σ H Q => tk σ H fun zs H2 => sp (gV [] zs) H2 Q E) := by
  refine ⟨fun pins s σ H Q I h => ?_⟩
  refine wpAny_Call_Name_kw (ld_glob I hg hm ?_ hdb)
  refine PySem.W.callWith_KW0 (h₀ := X.base) I.ok.mod.kin hk hall (thn (hkw.run pos pins s σ H _ I h) fun ws s2 ⟨zs, H2, I2, rz, q2⟩ => ⟨I2.kIn, ?_⟩) hpl
  rw [hks]
  exact run_fnk (us := []) (vs := []) F hr hb hx I2 .nil rz q2
end
section
variable {X : Cx} {p : Addr × Obj}
/-- f(e, ..) in a suite, p the exception in hand -/
theorem pe_callP {k : Nat} {f : Addr} {fd : FuncData} {ps : List Str} {sp : Addr → Value → Option Addr → List V → Hp → VK → Prop} {x : Str} {q pos : Pos} {c : Value} {d : Option Addr} {e : Expr} {es : List Expr} {t : TA} (F : FnP X.prog X.w X.K X.mg X.base k f fd ps sp) (hr : RoomH k X.A) (hot : Hot1 X.A p) (hz : Zc c d p.2) (hp : p ∈ X.pn) (hg : Gl X x) (hm : X.mg x = some (.ref f)) (hk : PySem.W.keepIn X.K (.ref f) = true) (hb : Binds X.K fd ps [])
    (ha : PA X (e :: es) t) (hdb : (x == ("__debug__" : Str)) = false := by decide) (he : starEach (e :: es) X.env = (false, eval e X.env) :: starEach es X.env := by rfl) (hpl : (backTo pos (starEach es X.env)).any (·.1) = false := by rfl) :
    PE X (.Call (.Name x q) (e :: es) [] pos) (fun σ H Q => t σ H fun vs H1 => sp p.1 c d vs H1 Q) := by
  refine ⟨fun pins s σ H Q I h => ?_⟩
  refine wpAny_Call_Name_kw (ld_glob I hg hm ?_ hdb)
  refine PySem.W.callWith_K (h₀ := X.base) I.ok.mod.kin hk (thn (ha.run pos pins s σ H _ I h) fun us s1 ⟨vs, H1, I1, r, z⟩ => ⟨I1.kIn, ?_⟩) he hpl
  have hl : (us ++ []).length = ps.length := by
    rw [List.append_nil, ← r.length]
    exact F.len _ _ _ _ _ _ z
  have b := hb s1 us I1.kIn hl
  rw [List.append_nil] at b
  have P1 := I1.pin p (List.mem_append_left _ hp)
  have hpin : PinOk X.stack H1 s1 p := ⟨P1.1, P1.2.1, fun hm => (List.mem_cons.mp (I1.stkSub p.1 hm)).elim P1.2.2.1 P1.2.2.2.1, P1.2.2.2.2⟩
  show wpAny _ _ (call (.ref f) us) _ _ _
  refine wpAny_call (codeAny_mono (F.run X.A X.stack s1 H1 ⟨us, []⟩ us vs Q p c d hr hot hz hpin I1.env0 b r z) fun r s' hq => ?_)
  cases r with
  | error er => exact (show False from hq).elim
  | ok fl =>
    cases fl with
    | ret u => exact I1.after hq
    | next => exact False.elim hq
    | brk => exact False.elim hq
    | cont => exact False.elim hq
/-- what the class of the exception in hand says -/
structure XiC (K : PySem.W.Frag) (D : Addr) : Prop extends ExcC K D where
  cl : (PySem.W.clsIn K D).isSome = true
theorem inst_at {pins : List (Addr × Obj)} {σ : L2.St} {H : Hp} {s : Shared} {D dd : Addr} {fs : List (Str × V)} (I : L2.Inv X pins σ H s) (hp : p ∈ X.pn) (hc : p.2.cls = .ref D) (hd : p.2.dict = some dd) (hv : ∃ vs, p.2.data = .fields vs) (hx : H dd = some (.xd fs)) :
    ∃ (od : Obj) (mA : Str → Option Value), PySem.W.InstAt s.heap p.1 p.2 D (some od) ∧ (∀ f, PySem.W.lookIn f od = some (mA f)) ∧ ∀ f, RelO (fs.lookup f) (mA f) := by
  obtain ⟨ha, _⟩ := I.pin p (List.mem_append_left _ hp)
  have hx : ObjOk X.prog X.w H s.heap dd (.xd fs) := I.hok dd _ hx
  obtain ⟨mA, hns, hr⟩ := hx
  obtain ⟨od, ho, hl⟩ := lookIn_ns hns
  obtain ⟨vs, hv⟩ := hv
  exact ⟨od, mA, ⟨ha, hc, by unfold PySem.W.notCls; rw [hv] <;> rfl, by rw [hd]; exact ho⟩, hl, hr⟩
/-- isinstance(e, c), e the exception in hand -/
def rIsP (K : PySem.W.Frag) (p : Addr × Obj) (D dd : Addr) (fs : List (Str × V)) : List V → Hp → VK → Prop := fun xs H Q => ∃ (c : V) (cv : Value) (b : Bool), xs = [.ref p.1, c] ∧ ClsV c cv ∧ H dd = some (.xd fs) ∧ PySem.W.kitOne K (.ref D) cv = some b ∧ Q (.bl b) H
/-- isinstance(e, (c1, c2, ..)) -/
def rIsPT (K : PySem.W.Frag) (p : Addr × Obj) (D dd : Addr) (fs : List (Str × V)) : List V → Hp → VK → Prop := fun xs H Q => ∃ (tp : Addr) (cs : List V) (us : List Value) (b : Bool), xs = [.ref p.1, .ref tp] ∧ H tp = some (.tup cs) ∧ Paired ClsV cs us ∧ H dd = some (.xd fs) ∧ PySem.W.kitAny K (.ref D) us = some b ∧ Q (.bl b) H
variable {D dd : Addr} {fs : List (Str × V)}
theorem call_isP (C : XiC X.K D) (hp : p ∈ X.pn) (hc : p.2.cls = .ref D) (hd : p.2.dict = some dd) (hv : ∃ vs, p.2.data = .fields vs) : CallR X (.builtin "isinstance") (rIsP X.K p D dd fs) := by
  intro pins s σ H xs us Q I r h
  obtain ⟨c, cv, b, rfl, hcv, hx, e, q⟩ := h
  obtain ⟨u1, u2, rfl, r1, r2⟩ := vals2 r
  cases hcv.eq r2
  cases (show u1 = Value.ref p.1 from r1)
  obtain ⟨od, mA, J, _⟩ := inst_at I hp hc hd hv hx
  exact PySem.W.kia_one (PySem.W.kitx_exc C.cl C.hg C.hk C.hs C.ha C.hn C.ht C.hm) I.kIn J e (fun z => nomatch z) fun tk => ⟨.bl b, H, I.tok tk, rfl, q⟩
theorem call_isPT (C : XiC X.K D) (hp : p ∈ X.pn) (hc : p.2.cls = .ref D) (hd : p.2.dict = some dd) (hv : ∃ vs, p.2.data = .fields vs) : CallR X (.builtin "isinstance") (rIsPT X.K p D dd fs) := by
  intro pins s σ H xs us Q I r h
  obtain ⟨tp, cs, ws, b, rfl, hT, k, hx, e, q⟩ := h
  obtain ⟨u1, u2, rfl, r1, r2⟩ := vals2 r
  cases (show u2 = Value.ref tp from r2)
  cases (show u1 = Value.ref p.1 from r1)
  obtain ⟨od, mA, J, _⟩ := inst_at I hp hc hd hv hx
  have hT : ObjOk X.prog X.w H s.heap tp (.tup cs) := I.hok tp _ hT
  obtain ⟨_, its, rv, o, h1, h2, n, h3⟩ := hT
  cases ClsV.all k rv
  obtain ⟨oc, od', dt, sl⟩ := o
  simp only at h2 h3
  subst h2 h3
  exact PySem.W.kia_tup (PySem.W.kitx_exc C.cl C.hg C.hk C.hs C.ha C.hn C.ht C.hm) I.kIn J h1 e (fun z => nomatch z) fun tk => ⟨.bl b, H, I.tok tk, rfl, q⟩
/-- e.f, e the exception in hand -/
theorem pe_fldP {e : Expr} {te : TE} {pos : Pos} {n : Str} (C : XiC X.K D) (hno : PySem.W.findIn X.K (.ref D) n = some none) (hp : p ∈ X.pn) (hc : p.2.cls = .ref D) (hd : p.2.dict = some dd) (hv : ∃ vs, p.2.data = .fields vs) (he : PE X e te) (hb : attributeBase e n X.env (eval e X.env) = eval e X.env := by rfl) :
    PE X (.Attribute e n pos) (fun σ H Q => te σ H fun x H1 => x = .ref p.1 ∧ ∃ v, H1 dd = some (.xd fs) ∧ fs.lookup n = some v ∧ Q v H1) := by
  refine ⟨fun pins s σ H Q I h => ?_⟩
  refine attr_of hb (thn (he.run pins s σ H _ I h) fun u s1 hh => ?_)
  obtain ⟨x, H1, I1, rx, rfl, v, hx, l, q⟩ := hh
  cases (show u = Value.ref p.1 from rx)
  obtain ⟨od, mA, J, hl, hr⟩ := inst_at I1 hp hc hd hv hx
  obtain ⟨u, hu, ru⟩ := RelO.some_of (v := v) (o := mA n) (by rw [← l]; exact hr n)
  exact HandSPX.exc_get I1.kIn J C.hg C.hk C.hs (PySem.W.findObj_own C.hd hno rfl (by rw [hl, hu])) (handed_of ru) ⟨v, H1, I1.tok _, ru, q⟩
end
end HX
/-! the text of law_k02 by places, its scopes -/
namespace K2
open PySem PyProof.Rows L2 HD
def top (i : Nat) : Stmt := PySem.Challenge.pw_fewestbends_k02_places_darts_ways.main.body.getD i (.Pass ⟨0, 0, 0, 0⟩)
abbrev s_turn_table : Stmt := top 8
theorem sc_turn_table : FnScope ["web", "name", "ways"] ["web"] (defScope s_turn_table) := ⟨rfl, rfl, rfl, by decide +kernel, rfl, by decide +kernel, by decide +kernel⟩
abbrev s_names_of : Stmt := top 9
theorem sc_names_of : FnScope ["web", "name", "_"] ["web"] (defScope s_names_of) := ⟨rfl, rfl, rfl, by decide +kernel, rfl, by decide +kernel, by decide +kernel⟩
abbrev s_place_or_raise : Stmt := top 10
theorem sc_place_or_raise : FnScope ["web", "a"] ["web", "a"] (defScope s_place_or_raise) := ⟨rfl, rfl, rfl, by decide +kernel, rfl, by decide +kernel, by decide +kernel⟩
abbrev s_neighbours_of : Stmt := top 11
theorem sc_neighbours_of : FnScope ["web", "a"] ["web", "a"] (defScope s_neighbours_of) := ⟨rfl, rfl, rfl, by decide +kernel, rfl, by decide +kernel, by decide +kernel⟩
abbrev s_dart_list : Stmt := top 12
theorem sc_dart_list : FnScope ["web", "name", "ways", "other"] ["web"] (defScope s_dart_list) := ⟨rfl, rfl, rfl, by decide +kernel, rfl, by decide +kernel, by decide +kernel⟩
abbrev s_darts_of : Stmt := top 13
theorem sc_darts_of : FnScope ["web"] ["web"] (defScope s_darts_of) := ⟨rfl, rfl, rfl, by decide +kernel, rfl, by decide +kernel, by decide +kernel⟩
abbrev s_link_list : Stmt := top 14
theorem sc_link_list : FnScope ["web", "name", "other"] ["web"] (defScope s_link_list) := ⟨rfl, rfl, rfl, by decide +kernel, rfl, by decide +kernel, by decide +kernel⟩
abbrev s_links_of : Stmt := top 15
theorem sc_links_of : FnScope ["web"] ["web"] (defScope s_links_of) := ⟨rfl, rfl, rfl, by decide +kernel, rfl, by decide +kernel, by decide +kernel⟩
abbrev s_are_neighbours : Stmt := top 16
theorem sc_are_neighbours : FnScope ["web", "a", "b"] ["web", "a", "b"] (defScope s_are_neighbours) := ⟨rfl, rfl, rfl, by decide +kernel, rfl, by decide +kernel, by decide +kernel⟩
abbrev s_dart_or_raise : Stmt := top 17
theorem sc_dart_or_raise : FnScope ["web", "a", "b"] ["web", "a", "b"] (defScope s_dart_or_raise) := ⟨rfl, rfl, rfl, by decide +kernel, rfl, by decide +kernel, by decide +kernel⟩
abbrev s_way_behind : Stmt := top 18
theorem sc_way_behind : FnScope ["ways", "b"] ["ways", "b"] (defScope s_way_behind) := ⟨rfl, rfl, rfl, by decide +kernel, rfl, by decide +kernel, by decide +kernel⟩
abbrev s_way_ahead : Stmt := top 19
theorem sc_way_ahead : FnScope ["ways", "b"] ["ways", "b"] (defScope s_way_ahead) := ⟨rfl, rfl, rfl, by decide +kernel, rfl, by decide +kernel, by decide +kernel⟩
abbrev s_next_dart : Stmt := top 20
theorem sc_next_dart : FnScope ["table", "dart", "a", "b"] ["table", "dart"] (defScope s_next_dart) := ⟨rfl, rfl, rfl, by decide +kernel, rfl, by decide +kernel, by decide +kernel⟩
abbrev s_dart_behind : Stmt := top 21
theorem sc_dart_behind : FnScope ["web", "a", "b"] ["web", "a", "b"] (defScope s_dart_behind) := ⟨rfl, rfl, rfl, by decide +kernel, rfl, by decide +kernel, by decide +kernel⟩
abbrev s_next_ways : Stmt := top 22
theorem sc_next_ways : FnScope ["web", "a", "b", "ways"] ["web", "a", "b"] (defScope s_next_ways) := ⟨rfl, rfl, rfl, by decide +kernel, rfl, by decide +kernel, by decide +kernel⟩
abbrev s_law_tin : Stmt := top 24
theorem sc_law_tin : FnScope ["script", "heap", "mixed", "at", "cell"] ["script"] (defScope s_law_tin) := ⟨rfl, rfl, rfl, by decide +kernel, rfl, by decide +kernel, by decide +kernel⟩
abbrev s_law_spill : Stmt := top 25
theorem sc_law_spill : FnScope ["tin", "many", "cell"] ["tin", "many"] (defScope s_law_spill) := ⟨rfl, rfl, rfl, by decide +kernel, rfl, by decide +kernel, by decide +kernel⟩
abbrev s_law_strewn : Stmt := top 26
theorem sc_law_strewn : FnScope ["tin", "things", "left", "out"] ["tin", "things"] (defScope s_law_strewn) := ⟨rfl, rfl, rfl, by decide +kernel, rfl, by decide +kernel, by decide +kernel⟩
abbrev s_law_names : Stmt := top 27
theorem sc_law_names : FnScope ["tin", "many", "way", "signs", "word", "at", "first", "names", "tail"] ["tin", "many"] (defScope s_law_names) := ⟨rfl, rfl, rfl, by decide +kernel, rfl, by decide +kernel, by decide +kernel⟩
abbrev s_law_grid : Stmt := top 28
theorem sc_law_grid : FnScope ["tin", "many", "wide", "dense", "turn", "order", "tied", "lap", "rows", "x", "y", "other", "one"] ["tin", "many", "wide", "dense"] (defScope s_law_grid) := ⟨rfl, rfl, rfl, by decide +kernel, rfl, by decide +kernel, by decide +kernel⟩
abbrev s_law_smooth : Stmt := top 29
theorem sc_law_smooth : FnScope ["tin", "turn", "laps", "cell", "one", "other"] ["tin", "turn", "laps"] (defScope s_law_smooth) := ⟨rfl, rfl, rfl, by decide +kernel, rfl, by decide +kernel, by decide +kernel⟩
abbrev s_law_begun : Stmt := top 30
theorem sc_law_begun : FnScope ["ways", "at"] ["ways"] (defScope s_law_begun) := ⟨rfl, rfl, rfl, by decide +kernel, rfl, by decide +kernel, by decide +kernel⟩
abbrev s_law_faces : Stmt := top 31
theorem sc_law_faces : FnScope ["places", "table", "name", "ways", "done", "faces", "other", "dart", "walk", "row", "at"] ["places"] (defScope s_law_faces) := ⟨rfl, rfl, rfl, by decide +kernel, rfl, by decide +kernel, by decide +kernel⟩
abbrev s_law_named : Stmt := top 32
theorem sc_law_named : FnScope ["tin", "turn", "cells", "names", "of", "at", "other", "cell"] ["tin", "turn"] (defScope s_law_named) := ⟨rfl, rfl, rfl, by decide +kernel, rfl, by decide +kernel, by decide +kernel⟩
abbrev s_law_same : Stmt := top 33
theorem sc_law_same : FnScope ["told", "due", "at"] ["told", "due"] (defScope s_law_same) := ⟨rfl, rfl, rfl, by decide +kernel, rfl, by decide +kernel, by decide +kernel⟩
abbrev s_law_is_step : Stmt := top 34
theorem sc_law_is_step : FnScope ["e", "word"] ["e", "word"] (defScope s_law_is_step) := ⟨rfl, rfl, rfl, by decide +kernel, rfl, by decide +kernel, by decide +kernel⟩
abbrev s_law_heard : Stmt := top 35
theorem sc_law_heard : FnScope ["which", "web", "a", "b", "e"] ["which", "web", "a", "b"] (defScope s_law_heard) := ⟨rfl, rfl, rfl, by decide +kernel, rfl, by decide +kernel, by decide +kernel⟩
abbrev s_law_refused : Stmt := top 36
theorem sc_law_refused : FnScope ["which", "web", "a", "b", "told"] ["which", "web", "a", "b"] (defScope s_law_refused) := ⟨rfl, rfl, rfl, by decide +kernel, rfl, by decide +kernel, by decide +kernel⟩
abbrev s_law_map : Stmt := top 37
theorem sc_law_map : FnScope ["tin", "many", "wide", "turn", "places", "faces"] ["tin", "many", "wide"] (defScope s_law_map) := ⟨rfl, rfl, rfl, by decide +kernel, rfl, by decide +kernel, by decide +kernel⟩
abbrev s_law_asked : Stmt := top 38
theorem sc_law_asked : FnScope ["web", "places", "names", "name", "ways", "darts", "other", "links", "dart", "table", "a", "b", "row", "at"] ["web"] (defScope s_law_asked) := ⟨rfl, rfl, rfl, by decide +kernel, rfl, by decide +kernel, by decide +kernel⟩
abbrev s_law_round : Stmt := top 39
theorem sc_law_round : FnScope ["tin", "web", "faces", "face", "at", "dart", "lap", "told", "due"] ["tin", "web"] (defScope s_law_round) := ⟨rfl, rfl, rfl, by decide +kernel, rfl, by decide +kernel, by decide +kernel⟩
abbrev s_law_refusals : Stmt := top 40
theorem sc_law_refusals : FnScope ["tin", "web", "names", "name", "ways", "no", "odd", "one", "table", "pairs", "far", "a", "b", "other"] ["tin", "web"] (defScope s_law_refusals) := ⟨rfl, rfl, rfl, by decide +kernel, rfl, by decide +kernel, by decide +kernel⟩
abbrev s_law : Stmt := top 41
theorem sc_law : FnScope ["script", "tin", "many", "web"] ["script"] (defScope s_law) := ⟨rfl, rfl, rfl, by decide +kernel, rfl, by decide +kernel, by decide +kernel⟩
def clsBody : Stmt → List Stmt
  | .ClassDef (body := b) .. => b
  | _ => []
abbrev s_init : Stmt := (clsBody (top 6)).getD 0 (.Pass ⟨0, 0, 0, 0⟩)
theorem sc_init : FnScope ["self", "word"] ["self", "word"] (defScope s_init) := ⟨rfl, rfl, rfl, by decide +kernel, rfl, by decide +kernel, by decide +kernel⟩
/-- what the top has written -/
structure Txt (K : PySem.W.Frag) (mg : Str → Option Value) where
  n_range : mg "range" = none
  n_min : mg "min" = none
  n_len : mg "len" = none
  n_abs : mg "abs" = none
  n_int : mg "int" = none
  n_list : mg "list" = none
  n_str : mg "str" = none
  n_sorted : mg "sorted" = none
  n_tuple : mg "tuple" = none
  n_max : mg "max" = none
  n_isinstance : mg "isinstance" = none
  n_bool : mg "bool" = none
  d_turn_table : Df K mg "turn_table" s_turn_table ["web"]
  d_names_of : Df K mg "names_of" s_names_of ["web"]
  d_place_or_raise : Df K mg "place_or_raise" s_place_or_raise ["web", "a"]
  d_neighbours_of : Df K mg "neighbours_of" s_neighbours_of ["web", "a"]
  d_dart_list : Df K mg "dart_list" s_dart_list ["web"]
  d_darts_of : Df K mg "darts_of" s_darts_of ["web"]
  d_link_list : Df K mg "link_list" s_link_list ["web"]
  d_links_of : Df K mg "links_of" s_links_of ["web"]
  d_are_neighbours : Df K mg "are_neighbours" s_are_neighbours ["web", "a", "b"]
  d_dart_or_raise : Df K mg "dart_or_raise" s_dart_or_raise ["web", "a", "b"]
  d_way_behind : Df K mg "way_behind" s_way_behind ["ways", "b"]
  d_way_ahead : Df K mg "way_ahead" s_way_ahead ["ways", "b"]
  d_next_dart : Df K mg "next_dart" s_next_dart ["table", "dart"]
  d_dart_behind : Df K mg "dart_behind" s_dart_behind ["web", "a", "b"]
  d_next_ways : Df K mg "next_ways" s_next_ways ["web", "a", "b"]
  d_law_tin : Df K mg "_law_tin" s_law_tin ["script"]
  d_law_spill : Df K mg "_law_spill" s_law_spill ["tin", "many"]
  d_law_strewn : Df K mg "_law_strewn" s_law_strewn ["tin", "things"]
  d_law_names : Df K mg "_law_names" s_law_names ["tin", "many"]
  d_law_grid : Df K mg "_law_grid" s_law_grid ["tin", "many", "wide", "dense"]
  d_law_smooth : Df K mg "_law_smooth" s_law_smooth ["tin", "turn", "laps"]
  d_law_begun : Df K mg "_law_begun" s_law_begun ["ways"]
  d_law_faces : Df K mg "_law_faces" s_law_faces ["places"]
  d_law_named : Df K mg "_law_named" s_law_named ["tin", "turn"]
  d_law_same : Df K mg "_law_same" s_law_same ["told", "due"]
  d_law_is_step : Df K mg "_law_is_step" s_law_is_step ["e", "word"]
  d_law_heard : Df K mg "_law_heard" s_law_heard ["which", "web", "a", "b"]
  d_law_refused : Df K mg "_law_refused" s_law_refused ["which", "web", "a", "b"]
  d_law_map : Df K mg "_law_map" s_law_map ["tin", "many", "wide"]
  d_law_asked : Df K mg "_law_asked" s_law_asked ["web"]
  d_law_round : Df K mg "_law_round" s_law_round ["tin", "web"]
  d_law_refusals : Df K mg "_law_refusals" s_law_refusals ["tin", "web"]
  d_law : Df K mg "law" s_law ["script"]
  cE : Addr
  cD : Addr
  cC : Addr
  cT : Addr
  cK : Addr
  cS : Addr
  fI : Addr
  fdI : FuncData
  g_BendError : mg "BendError" = some (.ref cE)
  g_DataError : mg "DataError" = some (.ref cD)
  g_CallError : mg "CallError" = some (.ref cC)
  g_TextError : mg "TextError" = some (.ref cT)
  g_DeskError : mg "DeskError" = some (.ref cK)
  g_BadStep : mg "BadStep" = some (.ref cS)
  ox : OexC K cS
  iC : PySem.W.findIn K (.ref cS) "__init__" = some (some (.ref fI))
  tI : PySem.W.typeIn K (.ref fI) = some (.type "function")
  FI : Fun K "__init__" "BadStep.__init__" s_init fI fdI
  bI : Binds K fdI ["self", "word"] []
  noW : PySem.W.findIn K (.ref cS) "word" = some none
  xi : HX.XiC K cS
  exS : PySem.W.exmOne K (.ref cS) (.ref cE) = some true
  kS : PySem.W.kitOne K (.ref cS) (.ref cS) = some true
  kC : PySem.W.kitOne K (.ref cS) (.ref cC) = some true
  kT : PySem.W.kitAny K (.ref cS) [.ref cD, .ref cT, .ref cK] = some false
end K2
namespace K2
open PySem PyProof.Rows L2 HD
abbrev Pl := Str × List Str
/-- the values of places: a pair of the name and the known tuple (at y) of the ways -/
inductive PlsV (K : PySem.W.Frag) (H : Hp) : List V → List Pl → List Addr → Prop
  | nil : PlsV K H [] [] []
  | cons {a y : Addr} {xs : List V} {p : Pl} {ps : List Pl} {ys : List Addr} : SqT K H a [.str p.1, .ref y] → FT H y (p.2.map V.str) → PlsV K H xs ps ys → PlsV K H (.ref a :: xs) (p :: ps) (y :: ys)
section
variable {K : PySem.W.Frag} {H H' : Hp}
theorem PlsV.mono (e : Tm H H') : ∀ {xs : List V} {ps : List Pl} {ys : List Addr}, PlsV K H xs ps ys → PlsV K H' xs ps ys
  | _, _, _, .nil => .nil
  | _, _, _, .cons h f t => .cons (e.sqT h) (f.mono e) (PlsV.mono e t)
theorem PlsV.len : ∀ {xs : List V} {ps : List Pl} {ys : List Addr}, PlsV K H xs ps ys → xs.length = ps.length ∧ ys.length = ps.length
  | _, _, _, .nil => ⟨rfl, rfl⟩
  | _, _, _, .cons _ _ t => ⟨congrArg (· + 1) t.len.1, congrArg (· + 1) t.len.2⟩
theorem PlsV.get : ∀ {xs : List V} {ps : List Pl} {ys : List Addr} {i : Nat} {x : V}, PlsV K H xs ps ys → xs[i]? = some x → ∃ a p y, x = .ref a ∧ ps[i]? = some p ∧ ys[i]? = some y ∧ SqT K H a [.str p.1, .ref y] ∧ FT H y (p.2.map V.str)
  | _, _, _, _, _, .nil, e => by simp at e
  | _, _, _, 0, _, .cons h f _, e => by
    have e := Option.some.inj (show some _ = some _ from e)
    exact ⟨_, _, _, e.symm, rfl, rfl, h, f⟩
  | _, _, _, i + 1, _, .cons _ _ t, e => PlsV.get (i := i) t (by simpa using e)
theorem PlsV.get2 : ∀ {xs : List V} {ps : List Pl} {ys : List Addr} {i : Nat} {p : Pl}, PlsV K H xs ps ys → ps[i]? = some p → ∃ a y, xs[i]? = some (.ref a) ∧ ys[i]? = some y ∧ SqT K H a [.str p.1, .ref y] ∧ FT H y (p.2.map V.str)
  | _, _, _, _, _, .nil, e => by simp at e
  | _, _, _, 0, _, .cons h f _, e => by
    have e := Option.some.inj (show some _ = some _ from e)
    subst e
    exact ⟨_, _, rfl, rfl, h, f⟩
  | _, _, _, i + 1, _, .cons _ _ t, e => PlsV.get2 (i := i) t (by simpa using e)
/-- a map: its places P, their ways at ys, the outer dart d -/
def WebV (K : PySem.W.Frag) (H : Hp) (v : V) (P : List Pl) (ys : List Addr) (d : Str × Str) : Prop :=
  ∃ a b c xs, v = .ref a ∧ SqT K H a [.ref b, .ref c] ∧ SqT K H b xs ∧ PlsV K H xs P ys ∧ SqT K H c [.str d.1, .str d.2]
theorem WebV.mono (e : Tm H H') {v : V} {P : List Pl} {ys : List Addr} {d : Str × Str} (h : WebV K H v P ys d) : WebV K H' v P ys d := by
  obtain ⟨a, b, c, xs, rfl, h1, h2, h3, h4⟩ := h
  exact ⟨a, b, c, xs, rfl, e.sqT h1, e.sqT h2, h3.mono e, e.sqT h4⟩
end
/-- the entries of the table of ways -/
def tabOf (P : List Pl) (ys : List Addr) : List (Key × V) := (P.zip ys).map fun z => (.inr z.1.1, .ref z.2)
theorem take_snoc {α : Type} {l : List α} {i : Nat} {x : α} (h : l[i]? = some x) : l.take (i + 1) = l.take i ++ [x] := by
  rw [List.take_add_one, h]
  rfl
theorem tab_snoc {M : List Pl} {ys : List Addr} {i : Nat} {p : Pl} {y : Addr} (hp : M[i]? = some p) (hy : ys[i]? = some y) : tabOf (M.take (i + 1)) (ys.take (i + 1)) = tabOf (M.take i) (ys.take i) ++ [(.inr p.1, .ref y)] := by
  have h1 := (List.getElem?_eq_some_iff.mp hp).1
  have h2 := (List.getElem?_eq_some_iff.mp hy).1
  unfold tabOf
  rw [take_snoc hp, take_snoc hy, List.zip_append (by rw [List.length_take, List.length_take]; omega), List.map_append]
  rfl
theorem valV_none {κ : Type} [DecidableEq κ] {kvs : List (κ × V)} {k : κ} (h : ∀ kv ∈ kvs, kv.1 ≠ k) : valV kvs k = none := by
  unfold valV
  rw [List.find?_eq_none.mpr fun x hx => by simpa using h x hx]
  rfl
theorem tab_keys {M : List Pl} {ys : List Addr} : ∀ kv ∈ tabOf M ys, ∃ p ∈ M, kv.1 = .inr p.1 := fun kv h => by
  obtain ⟨z, hz, rfl⟩ := List.mem_map.mp h
  exact ⟨z.1, (List.of_mem_zip hz).1, rfl⟩
theorem nodup_take {α β : Type} {f : α → β} {l : List α} {i : Nat} {x : α} (hn : (l.map f).Nodup) (h : l[i]? = some x) : ∀ y ∈ l.take i, f y ≠ f x := fun y hy e => by
  obtain ⟨j, hj⟩ := List.mem_iff_getElem?.mp hy
  have hji : j < i := by
    have := (List.getElem?_eq_some_iff.mp hj).1
    rw [List.length_take] at this
    omega
  rw [List.getElem?_take_of_lt hji] at hj
  have a : (l.map f)[j]? = some (f x) := by rw [List.getElem?_map, hj, ← e]; rfl
  have b : (l.map f)[i]? = some (f x) := by rw [List.getElem?_map, h]; rfl
  have z := nd_ix hn a b
  omega
theorem tab_put {M : List Pl} {ys : List Addr} {i : Nat} {p : Pl} {y : Addr} (hp : M[i]? = some p) (hy : ys[i]? = some y) (hn : (M.map (·.1)).Nodup) : putK (tabOf (M.take i) (ys.take i)) (.inr p.1) (.ref y) = tabOf (M.take (i + 1)) (ys.take (i + 1)) := by
  rw [tab_snoc hp hy]
  refine putK_new _ (valV_none fun kv hkv e => ?_)
  obtain ⟨q, hq, hk⟩ := tab_keys kv hkv
  rw [hk] at e
  exact nodup_take (f := fun x : Pl => x.1) hn hp q hq (Sum.inr.inj e)
theorem tab_len {M : List Pl} {ys : List Addr} : (tabOf M ys).length ≤ M.length := by
  unfold tabOf
  rw [List.length_map, List.length_zip]
  exact Nat.min_le_left _ _
/-- what the table tells of a name -/
theorem tab_val : ∀ {M : List Pl} {ys : List Addr} {i : Nat} {p : Pl} {y : Addr}, (M.map (·.1)).Nodup → M[i]? = some p → ys[i]? = some y → valV (tabOf M ys) (.inr p.1) = some (.ref y)
  | [], _, _, _, _, _, h, _ => by simp at h
  | _ :: _, [], _, _, _, _, _, h => by simp at h
  | q :: M, z :: ys, 0, p, y, _, h1, h2 => by
    have e1 := Option.some.inj (show some _ = some _ from h1)
    have e2 := Option.some.inj (show some _ = some _ from h2)
    subst e1 e2
    exact valV_pos rfl
  | q :: M, z :: ys, i + 1, p, y, hn, h1, h2 => by
    have hn' := List.nodup_cons.mp (show (q.1 :: M.map (·.1)).Nodup from hn)
    have h1' : M[i]? = some p := by simpa using h1
    show valV ((.inr q.1, .ref z) :: tabOf M ys) (.inr p.1) = _
    rw [valV_neg (p := (Sum.inr q.1, V.ref z)) (fun e => hn'.1 (by
      rw [Sum.inr.inj e]
      exact List.mem_map.mpr ⟨p, List.mem_of_getElem? h1', rfl⟩))]
    exact tab_val hn'.2 h1' (by simpa using h2)
theorem tab_no {M : List Pl} {ys : List Addr} {a : Str} (h : a ∉ M.map (·.1)) : valV (tabOf M ys) (.inr a) = none := valV_none fun kv hkv e => by
  obtain ⟨q, hq, hk⟩ := tab_keys kv hkv
  rw [hk] at e
  exact h (List.mem_map.mpr ⟨q, hq, Sum.inr.inj e⟩)
section
variable {P : Program} {w : World} {K : PySem.W.Frag} {mg : Str → Option Value} {base : Heap}
def spWayBehind : Sp := fun vs H Q _ => ∃ (a : Addr) (ws : List Str) (b z : Str) (j : Nat), vs = [.ref a, .str b] ∧ FT H a (ws.map V.str) ∧ ws[j]? = some b ∧ (∀ m, m < j → ws[m]? ≠ some b) ∧
  ws[(j + 1) % ws.length]? = some z ∧ Q (.str z) H
theorem ok_way_behind (T : Txt K mg) : FnOk P w K mg base CX0 1 T.d_way_behind.f T.d_way_behind.fd ["ways", "b"] spWayBehind := by
  refine T.d_way_behind.F.ok sc_way_behind (fun vs H Q E h => ?_) (fun cdv A outer s H vs Q E hr h => ?_)
  · obtain ⟨_, _, _, _, _, rfl, _⟩ := h
    rfl
  · obtain ⟨a, ws, b, z, j, rfl, hf, hj, hm, hz, q⟩ := h
    refine ⟨_, (pss_one (ps_ret (pe_ix ix_tup (pv 0) (pe_op op_modN (pe_op op_add (pe_bmF PySem.F.plainAttrs_tuple PySem.F.slot_tuple_index PySem.F.type_tuple_index mt_tup_index (pv 0) (pa_cons (pv 1) pa_nil)) pe_int) (pe_callB call_len (by rfl) T.n_len (by decide +kernel) (pa_cons (pv 0) pa_nil))) (fun _ _ => rfl)))), ?_⟩
    have hne : (ws.length : Int) ≠ 0 := by
      have := (List.getElem?_eq_some_iff.mp hj).1
      omega
    have hs := hf.sqT (K := K)
    obtain ⟨o, ho, hc, hd⟩ := id hf
    refine ⟨_, rfl, _, rfl, ⟨a, o, _, rfl, ho, hc, hd⟩, _, rfl, a, ws, b, j, rfl, rfl, hs, hj, hm, _, _, rfl, rfl, _, rfl, _, _, rfl, .inr ⟨_, hs, rfl⟩, _, _, rfl, rfl, (by rw [List.length_map]; exact hne), a, _, _, _, rfl, rfl, hs, ?_, q⟩
    have e : ((j : Int) + 1).fmod ((ws.map V.str).length : Nat) = (((j + 1) % ws.length : Nat) : Int) := by
      rw [List.length_map, Int.fmod_eq_emod_of_nonneg _ (by omega), Int.natCast_emod, Int.natCast_add]
      rfl
    show atI (ws.map V.str) (((j : Int) + 1).fmod ((ws.map V.str).length : Nat)) = some (.str z)
    rw [e]
    exact atI_nat (by rw [List.getElem?_map, hz]; rfl)
def spTurnTable (K : PySem.W.Frag) : Sp := fun vs H Q _ => ∃ (v : V) (M : List Pl) (ys : List Addr) (d : Str × Str), vs = [v] ∧ WebV K H v M ys d ∧ M.length ≤ 1000 ∧ (M.map (·.1)).Nodup ∧
  ∀ p, H p = none → Q (.ref p) (upd H p (.dK (tabOf M ys)))
theorem ok_turn_table (T : Txt K mg) : FnOk P w K mg base CX0 1 T.d_turn_table.f T.d_turn_table.fd ["web"] (spTurnTable K) := by
  refine T.d_turn_table.F.ok sc_turn_table (fun vs H Q E h => ?_) (fun cdv A outer s H vs Q E hr h => ?_)
  · obtain ⟨_, _, _, _, rfl, _⟩ := h
    rfl
  · obtain ⟨v, M, ys, d, rfl, hw, hl, hnd, q⟩ := h
    refine ⟨_, (pss_one (ps_ret (pe_dc (g := (gTup K 2 (gCons (gName 1) (gCons (gName 2) gNil)))) (tt := _) (tk := (tVar 1)) (tv := (tVar 2)) (own := [("name", 1), ("ways", 2)]) rfl sc_turn_table.nd (pi_tup (pe_ix ix_tup (pv 0) pe_int (fun _ _ => rfl))) (blkOk_by (own := [("name", 1), ("ways", 2)]) (N := ["web", "name", "ways"]) (sc := defScope s_turn_table) (by decide +kernel)) (fun _ _ _ _ _ => by refine (pg_tup ?_ ?_); (exact rfl); (refine (pgs_cons ?_ ?_); (refine (pg_name (i := 1) ?_ ?_ ?_); (exact sc_turn_table.nd); (exact rfl); (exact (Or.inl rfl))); (refine (pgs_cons ?_ ?_); (refine (pg_name (i := 2) ?_ ?_ ?_); (exact sc_turn_table.nd); (exact rfl); (exact (Or.inl rfl))); (exact pgs_nil)))) (fun _ _ _ _ _ => by exact pts_nil) (fun _ _ _ _ _ => by exact (pv 1)) (fun _ _ _ _ _ => by exact (pv 2))))), ?_⟩
    obtain ⟨a, b, c, xs, rfl, h1, h2, h3, h4⟩ := hw
    refine ⟨_, rfl, a, _, _, _, rfl, rfl, h1, rfl, b, rfl, ⟨_, h2⟩, fun D hD => dc_tup (K := K) (a := b) (xs := xs) (fun i H' => H' = upd H D (.dK (tabOf (M.take i) (ys.take i)))) ?_ ?_ ?_ ?_⟩
    · rfl
    · rintro i H' _ rfl
      exact (Tm.new hD).sqT h2
    · rintro i x H' hi rfl
      obtain ⟨a', p, y, rfl, hp, hy, hs, hf⟩ := h3.get hi
      refine ⟨a', _, rfl, (Tm.new hD).sqT hs, rfl, _, _, rfl, _, _, rfl, ?_⟩
      refine ⟨rfl, rfl, ?_⟩
      refine ⟨_, rfl, _, rfl, _, .inr p.1, rfl, upd_same, ?_, ?_⟩
      · exact Nat.lt_of_le_of_lt tab_len (Nat.lt_of_le_of_lt (by rw [List.length_take]; exact Nat.le_trans (Nat.min_le_right _ _) hl) (by decide : 1000 < sizeLine))
      · rw [upd_upd, tab_put hp hy hnd]
    · rintro H' rfl
      have e1 : M.take xs.length = M := List.take_of_length_le (by rw [h3.len.1]; exact Nat.le_refl _)
      have e2 : ys.take xs.length = ys := List.take_of_length_le (by rw [h3.len.1, h3.len.2]; exact Nat.le_refl _)
      rw [e1, e2]
      exact q D hD
end
end K2
namespace K2
open PySem PyProof.Rows L2 HD
section
variable {P : Program} {w : World} {K : PySem.W.Frag} {mg : Str → Option Value} {base : Heap}
def spWayAhead : Sp := fun vs H Q _ => ∃ (a : Addr) (ws : List Str) (b z : Str) (j : Nat), vs = [.ref a, .str b] ∧ FT H a (ws.map V.str) ∧ ws[j]? = some b ∧ (∀ m, m < j → ws[m]? ≠ some b) ∧
  ws[if j = 0 then ws.length - 1 else j - 1]? = some z ∧ Q (.str z) H
theorem atI_neg1 {α : Type} {xs : List α} {v : α} (h : xs[xs.length - 1]? = some v) : atI xs (-1) = some v := by
  have hl := (List.getElem?_eq_some_iff.mp h).1
  unfold atI ixN
  rw [if_neg (by omega), if_pos (by omega)]
  show xs[_]? = some v
  rw [← h]
  congr 1
  omega
theorem ok_way_ahead (T : Txt K mg) : FnOk P w K mg base CX0 1 T.d_way_ahead.f T.d_way_ahead.fd ["ways", "b"] spWayAhead := by
  refine T.d_way_ahead.F.ok sc_way_ahead (fun vs H Q E h => ?_) (fun cdv A outer s H vs Q E hr h => ?_)
  · obtain ⟨_, _, _, _, _, rfl, _⟩ := h
    rfl
  · obtain ⟨a, ws, b, z, j, rfl, hf, hj, hm, hz, q⟩ := h
    refine ⟨_, (pss_one (ps_ret (pe_ix ix_tup (pv 0) (pe_op op_sub (pe_bmF PySem.F.plainAttrs_tuple PySem.F.slot_tuple_index PySem.F.type_tuple_index mt_tup_index (pv 0) (pa_cons (pv 1) pa_nil)) pe_int) (fun _ _ => rfl)))), ?_⟩
    have hs := hf.sqT (K := K)
    obtain ⟨o, ho, hc, hd⟩ := id hf
    refine ⟨_, rfl, _, rfl, ⟨a, o, _, rfl, ho, hc, hd⟩, _, rfl, a, ws, b, j, rfl, rfl, hs, hj, hm, _, _, rfl, rfl, a, _, _, _, rfl, rfl, hs, ?_, q⟩
    show atI (ws.map V.str) ((j : Int) - 1) = some (.str z)
    by_cases h0 : j = 0
    · subst h0
      rw [if_pos rfl] at hz
      exact atI_neg1 (xs := ws.map V.str) (by rw [List.length_map, List.getElem?_map, hz]; rfl)
    · rw [if_neg h0] at hz
      have e : (j : Int) - 1 = ((j - 1 : Nat) : Int) := by omega
      rw [e]
      exact atI_nat (by rw [List.getElem?_map, hz]; rfl)
/-- the table of ways stands at t -/
def TabAt (H : Hp) (t : Addr) (M : List Pl) (ys : List Addr) : Prop := H t = some (.dK (tabOf M ys)) ∧ (M.map (·.1)).Nodup ∧ ys.length = M.length ∧ ∀ (i : Nat) (p : Pl) (y : Addr), M[i]? = some p → ys[i]? = some y → FT H y (p.2.map V.str)
/-- the dart that comes behind (a, b): b has the place j, a stands at i among its ways -/
def spNextDart (K : PySem.W.Frag) : Sp := fun vs H Q _ => ∃ (t e : Addr) (M : List Pl) (ys : List Addr) (a b z : Str) (ws : List Str) (j i : Nat), vs = [.ref t, .ref e] ∧ TabAt H t M ys ∧ SqT K H e [.str a, .str b] ∧ M[j]? = some (b, ws) ∧ ws[i]? = some a ∧ (∀ m, m < i → ws[m]? ≠ some a) ∧
  ws[(i + 1) % ws.length]? = some z ∧ ∀ p, H p = none → Q (.ref p) (upd H p (.tup [.str b, .str z]))
theorem ok_next_dart (T : Txt K mg) : FnOk P w K mg base CX0 2 T.d_next_dart.f T.d_next_dart.fd ["table", "dart"] (spNextDart K) := by
  refine T.d_next_dart.F.ok sc_next_dart (fun vs H Q E h => ?_) (fun cdv A outer s H vs Q E hr h => ?_)
  · obtain ⟨_, _, _, _, _, _, _, _, _, _, rfl, _⟩ := h
    rfl
  · obtain ⟨t, e, M, ys, a, b, z, ws, j, i, rfl, ⟨ht, hnd, hyl, hF⟩, he, hj, hi, hm, hz, q⟩ := h
    refine ⟨_, (pss_cons (ps_asg (pv 1) (pg_tup rfl (pgs_cons (pg_name (i := 2) sc_next_dart.nd rfl (Or.inl rfl)) (pgs_cons (pg_name (i := 3) sc_next_dart.nd rfl (Or.inl rfl)) pgs_nil))))
  (pss_one (ps_ret (pe_tup (pa_cons (pv 3) (pa_cons (pe_call (ok_way_behind T) (hr.mono (by decide)) (by rfl) T.d_way_behind.m T.d_way_behind.F.kp T.d_way_behind.b .nil pass0 (pa_cons (pe_dget (hu_of hr) (pv 0) (pv 3) (fun _ _ => rfl)) (pa_cons (pv 2) pa_nil))) pa_nil)))))), ?_⟩
    have hjy : j < ys.length := by
      rw [hyl]
      exact (List.getElem?_eq_some_iff.mp hj).1
    have hy : ys[j]? = some ys[j] := List.getElem?_eq_getElem hjy
    refine ⟨_, rfl, e, _, rfl, he, rfl, _, _, rfl, _, _, rfl, rfl, ?_⟩
    refine ⟨_, rfl, _, rfl, _, rfl, t, .ref ys[j], rfl, ?_, _, rfl, ?_⟩
    · show DGet H t (kV (.inr b)) (some (.ref ys[j]))
      have := tab_val hnd hj hy
      rw [← this]
      exact DGet.k ht
    · refine ⟨ys[j], ws, a, z, i, rfl, hF j _ _ hj hy, hi, hm, hz, ?_⟩
      exact ⟨by show 2 ≤ sizeLine; decide, fun p hp => q p hp⟩

/-- the darts of a map, place by place, the others ascending -/
def dartsOf (p : Pl) : List (Str × Str) := (sortS p.2).map fun o => (p.1, o)
def darts (M : List Pl) : List (Str × Str) := M.flatMap dartsOf
theorem darts_snoc {M : List Pl} {i : Nat} {p : Pl} (h : M[i]? = some p) : darts (M.take (i + 1)) = darts (M.take i) ++ dartsOf p := by
  unfold darts
  rw [take_snoc h, List.flatMap_append, List.flatMap_cons, List.flatMap_nil, List.append_nil]
theorem darts_take_len (M : List Pl) (i : Nat) : (darts (M.take i)).length ≤ (darts M).length := by
  have e : darts M = darts (M.take i) ++ darts (M.drop i) := by
    unfold darts
    rw [← List.flatMap_append, List.take_append_drop]
  rw [e, List.length_append]
  omega
def spDartList (K : PySem.W.Frag) : Sp := fun vs H Q _ => ∃ (v : V) (M : List Pl) (ys : List Addr) (d : Str × Str), vs = [v] ∧ WebV K H v M ys d ∧ (darts M).length ≤ 1000 ∧
  ∀ (p : Addr) (H' : Hp) (xs : List V), H p = none → Same H H' → H' p = some (.lst xs) → TdAll K H' xs ((darts M).map encD) → Q (.ref p) H'
theorem ok_dart_list (T : Txt K mg) : FnOk P w K mg base CX0 1 T.d_dart_list.f T.d_dart_list.fd ["web"] (spDartList K) := by
  refine T.d_dart_list.F.ok sc_dart_list (fun vs H Q E h => ?_) (fun cdv A outer s H vs Q E hr h => ?_)
  · obtain ⟨_, _, _, _, rfl, _⟩ := h
    rfl
  · obtain ⟨v, M, ys, d, rfl, hw, hl, q⟩ := h
    refine ⟨_, (pss_one (ps_ret (pe_lc2 (g := (gTup K 2 (gCons (gName 1) (gCons (gName 2) gNil)))) (tt := _) (wi1 := (iList K (tCB (rSortD K) (tCons (tVar 2) tNil)))) (g1 := (gName 3)) (tt1 := _) (te := (tTup (tCons (tVar 1) (tCons (tVar 3) tNil)))) (own := [("name", 1), ("ways", 2), ("other", 3)]) (vs1 := [3]) rfl sc_dart_list.nd (pi_tup (pe_ix ix_tup (pv 0) pe_int (fun _ _ => rfl))) (blkOk_by (own := [("name", 1), ("ways", 2), ("other", 3)]) (N := ["web", "name", "ways", "other"]) (sc := defScope s_dart_list) (by decide +kernel)) (by decide) (fun _ _ _ _ _ => by refine (pg_tup ?_ ?_); (exact rfl); (refine (pgs_cons ?_ ?_); (refine (pg_name (i := 1) ?_ ?_ ?_); (exact sc_dart_list.nd); (exact rfl); (exact (Or.inl rfl))); (refine (pgs_cons ?_ ?_); (refine (pg_name (i := 2) ?_ ?_ ?_); (exact sc_dart_list.nd); (exact rfl); (exact (Or.inl rfl))); (exact pgs_nil)))) (fun _ _ _ _ _ => by exact pts_nil) (fun _ _ _ _ _ => by refine (pi_list ?_); (refine (pe_callB (cr_sortD hr.units) (by rfl) T.n_sorted (by decide +kernel) ?_); (refine (pa_cons ?_ ?_); (exact (pv 2)); (exact pa_nil)))) (fun _ _ _ _ _ => by refine (pg_name (i := 3) ?_ ?_ ?_); (exact sc_dart_list.nd); (exact rfl); (exact (Or.inl rfl))) (fun _ _ _ _ _ => by exact pts_nil) (fun _ _ _ _ _ => by refine (pe_tup ?_); (refine (pa_cons ?_ ?_); (exact (pv 1)); (refine (pa_cons ?_ ?_); (exact (pv 3)); (exact pa_nil))))))), ?_⟩
    obtain ⟨a, b, c, xs, rfl, h1, h2, h3, h4⟩ := hw
    refine ⟨_, rfl, a, _, _, _, rfl, rfl, h1, rfl, b, rfl, ⟨_, h2⟩, fun D hD => itt_by (K := K) (a := b) (xs := xs) (fun i H' => Same H H' ∧ ∃ acc, H' D = some (.lst acc) ∧ TdAll K H' acc ((darts (M.take i)).map encD)) ?_ ?_ ?_ ?_⟩
    · exact ⟨same_new hD, [], upd_same, .nil⟩
    · rintro i H' _ ⟨s0, _⟩
      exact (Tm.of s0).sqT h2
    · rintro i x H1 hi ⟨s0, acc, hDa, hda⟩
      obtain ⟨a', p, y, rfl, hp, hy, hs, hf⟩ := h3.get hi
      refine ⟨a', _, rfl, (Tm.of s0).sqT hs, rfl, _, _, rfl, _, _, rfl, rfl, rfl, ?_⟩
      show tCB (rSortD K) (tCons (tVar 2) tNil) _ H1 _
      refine ⟨_, rfl, ?_⟩
      dsimp only [tNil]
      refine sortD_strs (.inr ((hf.mono (Tm.of s0)).sqT)) fun l hl' => ?_
      have s1 : Same H1 (upd H1 l (.lst ((sortS p.2).map V.str))) := same_new hl'
      have nDl : D ≠ l := ne_of_none hDa hl'
      refine ⟨l, rfl, ⟨_, SqL.of upd_same⟩, itl_by (K := K) (a := l) (xs := (sortS p.2).map V.str) (fun j H' => Same H H' ∧ H' l = some (.lst ((sortS p.2).map V.str)) ∧ ∃ acc, H' D = some (.lst acc) ∧ TdAll K H' acc ((darts (M.take i) ++ (dartsOf p).take j).map encD)) ?_ ?_ ?_ ?_⟩
      · refine ⟨s0.trans s1, upd_same, acc, (s1 _ _ hDa), ?_⟩
        rw [List.take_zero, List.append_nil]
        exact hda.mono (Tm.of s1)
      · rintro j H' _ ⟨_, h, _⟩
        exact SqL.of h
      · rintro j x H2 hj ⟨s2, hl2, acc2, hD2, hd2⟩
        rw [List.getElem?_map] at hj
        obtain ⟨o, ho, rfl⟩ : ∃ o, (sortS p.2)[j]? = some o ∧ x = V.str o := by
          cases e : (sortS p.2)[j]? with
          | none => rw [e] at hj; cases hj
          | some o => rw [e] at hj; exact ⟨o, rfl, (Option.some.inj hj).symm⟩
        have hd : (dartsOf p)[j]? = some (p.1, o) := by
          unfold dartsOf
          rw [List.getElem?_map, ho]
          rfl
        refine ⟨rfl, ?_⟩
        refine ⟨_, rfl, _, rfl, (by show 2 ≤ sizeLine; decide), fun t ht => ?_⟩
        have nDt : D ≠ t := ne_of_none hD2 ht
        have nlt : l ≠ t := ne_of_none hl2 ht
        have s3 : Same H2 (upd H2 t (.tup [.str p.1, .str o])) := same_new ht
        have hlen : acc2.length < 1000 := by
          have e1 := hd2.length
          rw [e1, List.length_map, List.length_append]
          have e2 := darts_take_len M (i + 1)
          rw [darts_snoc hp, List.length_append] at e2
          have e3 := (List.getElem?_eq_some_iff.mp hd).1
          rw [List.length_take]
          omega
        refine ⟨acc2, s3 _ _ hD2, Nat.lt_trans hlen (by decide), ?_, ?_, acc2 ++ [.ref t], upd_same, ?_⟩
        · intro u o' hu
          have hu2 := s3 _ _ (s2 _ _ hu)
          have nuD : u ≠ D := fun e => by
            rw [e, hD] at hu
            cases hu
          rw [upd_ne nuD]
          exact hu2
        · rw [upd_ne nDl.symm]
          exact s3 _ _ hl2
        · have tm : Tm H2 (upd (upd H2 t (.tup [.str p.1, .str o])) D (.lst (acc2 ++ [.ref t]))) := (Tm.of s3).trans (Tm.lst (s3 _ _ hD2))
          rw [take_snoc hd, ← List.append_assoc, List.map_append]
          refine (hd2.mono tm).append (.cons (td_dart (d := (p.1, o)) ?_) .nil)
          exact SqT.of (by rw [upd_ne nDt.symm, upd_same])
      · rintro H' ⟨s2, _, acc2, hD2, hd2⟩
        refine ⟨s2, acc2, hD2, ?_⟩
        rw [darts_snoc hp]
        have e : (dartsOf p).take ((sortS p.2).map V.str).length = dartsOf p := List.take_of_length_le (by unfold dartsOf; rw [List.length_map, List.length_map]; exact Nat.le_refl _)
        rw [e] at hd2
        exact hd2
    · rintro H' ⟨s0, acc, hDa, hda⟩
      have e1 : M.take xs.length = M := List.take_of_length_le (by rw [h3.len.1]; exact Nat.le_refl _)
      rw [e1] at hda
      exact q D H' acc hD s0 hDa hda
end
end K2
namespace K2
open PySem PyProof.Rows L2 HD
/-- the ways of a name -/
def waysOf (M : List Pl) (a : Str) : List Str := ((M.find? fun p => p.1 = a).map (·.2)).getD []
theorem ways_at : ∀ {M : List Pl} {j : Nat} {a : Str} {ws : List Str}, (M.map (·.1)).Nodup → M[j]? = some (a, ws) → waysOf M a = ws
  | [], _, _, _, _, h => by simp at h
  | p :: M, 0, a, ws, _, h => by
    have e := Option.some.inj (show some p = some _ from h)
    subst e
    unfold waysOf
    rw [List.find?_cons_of_pos (by simp)]
    rfl
  | p :: M, j + 1, a, ws, hn, h => by
    have hn' := List.nodup_cons.mp (show (p.1 :: M.map (·.1)).Nodup from hn)
    have h' : M[j]? = some (a, ws) := by simpa using h
    have ne : p.1 ≠ a := fun e => hn'.1 (e ▸ List.mem_map.mpr ⟨_, List.mem_of_getElem? h', rfl⟩)
    have ih := ways_at hn'.2 h'
    unfold waysOf at ih ⊢
    rw [List.find?_cons_of_neg (by simpa using ne)]
    exact ih
theorem ways_no {M : List Pl} {a : Str} (h : a ∉ M.map (·.1)) : waysOf M a = [] := by
  unfold waysOf
  rw [List.find?_eq_none.mpr fun p hp e => h (List.mem_map.mpr ⟨p, hp, by simpa using e⟩)]
  rfl
theorem inV_strs {b : Str} {ws : List Str} : inV (.str b) (ws.map V.str) = decide (b ∈ ws) := by
  unfold inV
  rw [List.any_map]
  induction ws with
  | nil => simp
  | cons w ws ih =>
    rw [List.any_cons, ih]
    show ((w == b) || decide (b ∈ ws)) = _
    by_cases h : w = b
    · subst h
      simp
    · have h1 : (w == b) = false := by simpa using h
      have h2 : b ≠ w := fun z => h z.symm
      simp [h1, h2]
theorem flat_strs {ws : List Str} : (ws.map V.str).all flatV = true := by
  rw [List.all_map, List.all_eq_true]
  intro w _
  rfl
theorem tab_ways {M : List Pl} {ys : List Addr} {a : Str} (hn : (M.map (·.1)).Nodup) (hl : ys.length = M.length) :
    (∃ (j : Nat) (ws : List Str) (y : Addr), M[j]? = some (a, ws) ∧ ys[j]? = some y ∧ valV (tabOf M ys) (.inr a) = some (.ref y) ∧ waysOf M a = ws) ∨ (a ∉ M.map (·.1) ∧ valV (tabOf M ys) (.inr a) = none ∧ waysOf M a = []) := by
  by_cases h : a ∈ M.map (·.1)
  · obtain ⟨p, hp, rfl⟩ := List.mem_map.mp h
    obtain ⟨j, hj⟩ := List.mem_iff_getElem?.mp hp
    have hy : j < ys.length := by rw [hl]; exact (List.getElem?_eq_some_iff.mp hj).1
    exact .inl ⟨j, p.2, ys[j], hj, List.getElem?_eq_getElem hy, tab_val hn hj (List.getElem?_eq_getElem hy), ways_at hn hj⟩
  · exact .inr ⟨h, tab_no h, ways_no h⟩
theorem WebV.tab {K : PySem.W.Frag} {H H' : Hp} {v : V} {M : List Pl} {ys : List Addr} {d : Str × Str} {t : Addr} (h : WebV K H v M ys d) (e : Tm H H') (hn : (M.map (·.1)).Nodup) (ht : H' t = some (.dK (tabOf M ys))) : TabAt H' t M ys := by
  obtain ⟨a, b, c, xs, rfl, h1, h2, h3, h4⟩ := h
  refine ⟨ht, hn, h3.len.2, fun i p y hp hy => ?_⟩
  obtain ⟨a', y', _, hy', _, hf⟩ := h3.get2 hp
  rw [hy'] at hy
  cases hy
  exact hf.mono e
theorem WebV.ylen {K : PySem.W.Frag} {H : Hp} {v : V} {M : List Pl} {ys : List Addr} {d : Str × Str} (h : WebV K H v M ys d) : ys.length = M.length := by
  obtain ⟨a, b, c, xs, rfl, h1, h2, h3, h4⟩ := h
  exact h3.len.2
section
variable {P : Program} {w : World} {K : PySem.W.Frag} {mg : Str → Option Value} {base : Heap}
/-- a map that may be asked -/
def Web (K : PySem.W.Frag) (H : Hp) (v : V) (M : List Pl) (ys : List Addr) (d : Str × Str) : Prop := WebV K H v M ys d ∧ M.length ≤ 1000 ∧ (M.map (·.1)).Nodup ∧ (darts M).length ≤ 1000
/-- the way out by a BadStep with this word -/
def Rz (cS : Addr) (H : Hp) (E : XK) (word : Str) : Prop := ∀ (dd : Addr) (H' : Hp), Same H H' → H' dd = some (.xd [("word", .str word)]) → E (.ref cS) (some dd) H'
theorem Rz.same {cS : Addr} {H H1 : Hp} {E : XK} {word : Str} (h : Rz cS H E word) (e : Same H H1) : Rz cS H1 E word := fun dd H' s x => h dd H' (e.trans s) x
def spInit (K : PySem.W.Frag) : Sp := fun vs H Q _ => ∃ (a C : Addr) (v : V), vs = [.ref a, v] ∧ OexC K C ∧ PySem.W.findIn K (.ref C) "word" = some none ∧ H a = some (exo a C none) ∧
  ∀ d, H d = none → d ≠ a → Q .non (upd (upd H d (exd d [("word", v)])) a (exo a C (some d)))
theorem ok_init (T : Txt K mg) : FnOk P w K mg base CX0 1 T.fI T.fdI ["self", "word"] (spInit K) := by
  refine T.FI.ok sc_init (fun vs H Q E h => ?_) (fun cdv A outer s H vs Q E hr h => ?_)
  · obtain ⟨_, _, _, rfl, _⟩ := h
    rfl
  · obtain ⟨a, C, v, rfl, hC, hn, ha, q⟩ := h
    exact ⟨_, (pss_one (ps_ost (pv 0) (pv 1))), _, rfl, _, rfl, a, C, rfl, hC, hn, .inl ⟨ha, fun d hd hne => q d hd hne⟩⟩
/-- what stands behind raise BadStep(word) -/
theorem raise_word {T : Txt K mg} {H : Hp} {E : XK} {word : Str} {σ : L2.St} (h : Rz T.cS H E word) : tMkO T.cS (spInit K) [] (tCons (tC (.str word)) tNil) σ H (fun cls d H' => E cls d H') := by
  refine ⟨(by show 1 ≤ 1000; decide), fun a ha => ⟨a, T.cS, .str word, rfl, T.ox, T.noW, upd_same, fun d hd hne => ⟨rfl, d, [("word", .str word)], upd_same, ?_, ?_, ?_⟩⟩⟩
  · rw [upd_ne hne, upd_same]
  · rw [upd_ne hne] at hd
    exact hd
  · have hd1 : H d = none := by
      rw [upd_ne hne] at hd
      exact hd
    refine h d _ (fun b o e => ?_) upd_same
    have nb : b ≠ a := ne_of_none e ha
    have nd : b ≠ d := ne_of_none e hd1
    rw [upd_ne nd, del_ne nb, upd_ne nb, upd_ne nd, upd_ne nb]
    exact e
def spPlaceOrRaise (K : PySem.W.Frag) (cS : Addr) : Sp := fun vs H Q E => ∃ (v : V) (M : List Pl) (ys : List Addr) (d : Str × Str) (a : Str), vs = [v, .str a] ∧ Web K H v M ys d ∧ (a ∈ M.map (·.1) → ∀ H', Same H H' → Q .non H') ∧ (a ∉ M.map (·.1) → Rz cS H E "place")
theorem ok_place_or_raise (T : Txt K mg) : FnOk P w K mg base (L2N.CX P w) 3 T.d_place_or_raise.f T.d_place_or_raise.fd ["web", "a"] (spPlaceOrRaise K T.cS) := by
  refine HX.okN T.d_place_or_raise.F sc_place_or_raise (fun vs H Q E h => ?_) (fun cdv A outer s H vs Q E hr h => ?_)
  · obtain ⟨_, _, _, _, _, rfl, _⟩ := h
    rfl
  · obtain ⟨v, M, ys, d, a, rfl, ⟨hw, hl, hn, hdl⟩, q1, q2⟩ := h
    refine ⟨_, (pss_one (ps_if (pt_cmp (pc_dnotin (hu_of hr) (pv 1) (pe_call (ok_turn_table T) (hr.mono (by decide)) (by rfl) T.d_turn_table.m T.d_turn_table.F.kp T.d_turn_table.b .nil pass0 (pa_cons (pv 0) pa_nil))))
    (pss_one (L2N.ps_raise rfl (L2N.takes_of rfl rfl rfl rfl) (HX.pmkN T.ox T.iC T.tI (ok_init T) (hr.mono (by decide)) T.bI pass0 rfl T.g_BadStep (pa_cons pe_str pa_nil))))
    pss_nil)), ?_⟩
    refine ⟨_, rfl, _, rfl, v, M, ys, d, rfl, hw, hl, hn, fun p hp => ?_⟩
    have s1 : Same H (upd H p (.dK (tabOf M ys))) := same_new hp
    refine ⟨p, _, rfl, DGet.k (k := Sum.inr a) upd_same, _, rfl, ?_⟩
    rcases tab_ways (a := a) hn hw.ylen with ⟨j, ws, y, hj, _, hv, _⟩ | ⟨hno, hv, _⟩
    · rw [hv]
      exact q1 (List.mem_map.mpr ⟨_, List.mem_of_getElem? hj, rfl⟩) _ s1
    · rw [hv]
      exact raise_word (T := T) ((q2 hno).same s1)
end
end K2
namespace K2
open PySem PyProof.Rows L2 HD
section
variable {P : Program} {w : World} {K : PySem.W.Frag} {mg : Str → Option Value} {base : Heap}
theorem Web.mono {H H' : Hp} {v : V} {M : List Pl} {ys : List Addr} {d : Str × Str} (e : Tm H H') (h : Web K H v M ys d) : Web K H' v M ys d := ⟨h.1.mono e, h.2⟩
def spAreNeighbours (K : PySem.W.Frag) : Sp := fun vs H Q _ => ∃ (v : V) (M : List Pl) (ys : List Addr) (d : Str × Str) (a b : Str), vs = [v, .str a, .str b] ∧ Web K H v M ys d ∧ ∀ H', Same H H' → Q (.bl (decide (b ∈ waysOf M a))) H'
theorem ok_are_neighbours (T : Txt K mg) : FnOk P w K mg base CX0 2 T.d_are_neighbours.f T.d_are_neighbours.fd ["web", "a", "b"] (spAreNeighbours K) := by
  refine T.d_are_neighbours.F.ok sc_are_neighbours (fun vs H Q E h => ?_) (fun cdv A outer s H vs Q E hr h => ?_)
  · obtain ⟨_, _, _, _, _, _, rfl, _⟩ := h
    rfl
  · obtain ⟨v, M, ys, d, a, b, rfl, ⟨hw, hl, hn, hdl⟩, q⟩ := h
    refine ⟨_, (pss_one (ps_ret (pe_cmpR op_in_seq (pv 2) (pe_dget2 (hu_of hr) (pe_call (ok_turn_table T) (hr.mono (by decide)) (by rfl) T.d_turn_table.m T.d_turn_table.F.kp T.d_turn_table.b .nil pass0 (pa_cons (pv 0) pa_nil)) (pv 1) (pe_tup pa_nil) ⟨rfl, rfl, rfl, rfl⟩) (by rfl)))), ?_⟩
    refine ⟨_, rfl, ?_⟩
    refine ⟨_, rfl, v, M, ys, d, rfl, hw, hl, hn, fun p hp => ?_⟩
    have s1 : Same H (upd H p (.dK (tabOf M ys))) := same_new hp
    refine ⟨p, rfl, .inl ⟨_, .inl upd_same⟩, _, rfl, (by show 0 ≤ sizeLine; decide), fun t ht => ?_⟩
    have npt : p ≠ t := ne_of_none upd_same ht
    have s2 : Same H (upd (upd H p (.dK (tabOf M ys))) t (.tup [])) := s1.trans (same_new ht)
    refine ⟨_, DGet.k (k := Sum.inr a) (by rw [upd_ne npt, upd_same]), ?_⟩
    have fin : ∀ (y : Addr) (ws : List Str), SqT K (upd (upd H p (.dK (tabOf M ys))) t (.tup [])) y (ws.map V.str) → waysOf M a = ws → rIn K false (.str b) (.ref y) (upd (upd H p (.dK (tabOf M ys))) t (.tup [])) Q := fun y ws hs e => by
      refine ⟨y, ws.map V.str, rfl, .inr hs, rfl, flat_strs, ?_⟩
      rw [inV_strs, ← e]
      exact q _ s2
    rcases tab_ways (a := a) hn hw.ylen with ⟨j, ws, y, hj, hy, hv, he⟩ | ⟨hno, hv, he⟩
    · rw [hv]
      obtain ⟨_, _, _, hF⟩ := hw.tab (Tm.of s2) (t := p) hn (by rw [upd_ne npt, upd_same])
      exact fin y ws (hF j _ y hj hy).sqT he
    · rw [hv]
      exact fin t [] (SqT.of upd_same) he
def spDartOrRaise (K : PySem.W.Frag) (cS : Addr) : Sp := fun vs H Q E => ∃ (v : V) (M : List Pl) (ys : List Addr) (d : Str × Str) (a b : Str), vs = [v, .str a, .str b] ∧ Web K H v M ys d ∧ (b ∈ waysOf M a → ∀ H', Same H H' → Q .non H') ∧ (b ∉ waysOf M a → Rz cS H E "dart")
theorem ok_dart_or_raise (T : Txt K mg) : FnOk P w K mg base (L2N.CX P w) 3 T.d_dart_or_raise.f T.d_dart_or_raise.fd ["web", "a", "b"] (spDartOrRaise K T.cS) := by
  refine HX.okN T.d_dart_or_raise.F sc_dart_or_raise (fun vs H Q E h => ?_) (fun cdv A outer s H vs Q E hr h => ?_)
  · obtain ⟨_, _, _, _, _, _, rfl, _⟩ := h
    rfl
  · obtain ⟨v, M, ys, d, a, b, rfl, hw, q1, q2⟩ := h
    refine ⟨_, (pss_one (ps_if (pt_not (pt_val (pe_call (ok_are_neighbours T) (hr.mono (by decide)) (by rfl) T.d_are_neighbours.m T.d_are_neighbours.F.kp T.d_are_neighbours.b .nil pass0 (pa_cons (pv 0) (pa_cons (pv 1) (pa_cons (pv 2) pa_nil))))))
    (pss_one (L2N.ps_raise rfl (L2N.takes_of rfl rfl rfl rfl) (HX.pmkN T.ox T.iC T.tI (ok_init T) (hr.mono (by decide)) T.bI pass0 rfl T.g_BadStep (pa_cons pe_str pa_nil))))
    pss_nil)), ?_⟩
    refine ⟨_, rfl, _, rfl, _, rfl, v, M, ys, d, a, b, rfl, hw, fun H' s1 => ?_⟩
    refine ⟨_, rfl, ?_⟩
    by_cases h : b ∈ waysOf M a
    · rw [decide_eq_true h]
      exact q1 h _ s1
    · rw [decide_eq_false h]
      exact raise_word (T := T) ((q2 h).same s1)
def spNeighboursOf (K : PySem.W.Frag) (cS : Addr) : Sp := fun vs H Q E => ∃ (v : V) (M : List Pl) (ys : List Addr) (d : Str × Str) (a : Str), vs = [v, .str a] ∧ Web K H v M ys d ∧ (∀ (j : Nat) (ws : List Str) (y : Addr), M[j]? = some (a, ws) → ys[j]? = some y → ∀ H', Same H H' → Q (.ref y) H') ∧ (a ∉ M.map (·.1) → Rz cS H E "place")
theorem ok_neighbours_of (T : Txt K mg) : FnOk P w K mg base (L2N.CX P w) 4 T.d_neighbours_of.f T.d_neighbours_of.fd ["web", "a"] (spNeighboursOf K T.cS) := by
  refine HX.okN T.d_neighbours_of.F sc_neighbours_of (fun vs H Q E h => ?_) (fun cdv A outer s H vs Q E hr h => ?_)
  · obtain ⟨_, _, _, _, _, rfl, _⟩ := h
    rfl
  · obtain ⟨v, M, ys, d, a, rfl, hw, q1, q2⟩ := h
    refine ⟨_, (pss_cons (ps_expr (pe_call (ok_place_or_raise T) (hr.mono (by decide)) (by rfl) T.d_place_or_raise.m T.d_place_or_raise.F.kp T.d_place_or_raise.b .nil (L2N.passes_call (L2N.takes_of rfl rfl rfl rfl) fun _ _ _ _ h => h) (pa_cons (pv 0) (pa_cons (pv 1) pa_nil))))
  (pss_one (ps_ret (pe_dget (hu_of hr) (pe_call (ok_turn_table T) (hr.mono (by decide)) (by rfl) T.d_turn_table.m T.d_turn_table.F.kp T.d_turn_table.b .nil pass0 (pa_cons (pv 0) pa_nil)) (pv 1) (fun _ _ => rfl))))), ?_⟩
    refine ⟨_, rfl, _, rfl, v, M, ys, d, a, rfl, hw, fun hin H1 s1 => ?_, q2⟩
    refine ⟨_, rfl, v, M, ys, d, rfl, hw.1.mono (Tm.of s1), hw.2.1, hw.2.2.1, fun p hp => ?_⟩
    have s2 : Same H (upd H1 p (.dK (tabOf M ys))) := s1.trans (same_new hp)
    rcases tab_ways (a := a) hw.2.2.1 hw.1.ylen with ⟨j, ws, y, hj, hy, hv, he⟩ | ⟨hno, _, _⟩
    · refine ⟨_, rfl, p, .ref y, rfl, ?_, q1 j ws y hj hy _ s2⟩
      show DGet _ p (kV (.inr a)) (some (.ref y))
      rw [← hv]
      exact DGet.k upd_same
    · exact absurd hin hno
/-- (a, b) is a dart, (b, z) the one that comes behind it -/
def NextD (M : List Pl) (a b z : Str) : Prop := ∃ (j i : Nat) (ws : List Str), M[j]? = some (b, ws) ∧ ws[i]? = some a ∧ (∀ m, m < i → ws[m]? ≠ some a) ∧ ws[(i + 1) % ws.length]? = some z
def spDartBehind (K : PySem.W.Frag) (cS : Addr) : Sp := fun vs H Q E => ∃ (v : V) (M : List Pl) (ys : List Addr) (d : Str × Str) (a b : Str), vs = [v, .str a, .str b] ∧ Web K H v M ys d ∧
  (b ∈ waysOf M a → ∃ z, NextD M a b z ∧ ∀ p H', Same H H' → H p = none → H' p = some (.tup [.str b, .str z]) → Q (.ref p) H') ∧ (b ∉ waysOf M a → Rz cS H E "dart")
theorem ok_dart_behind (T : Txt K mg) : FnOk P w K mg base (L2N.CX P w) 4 T.d_dart_behind.f T.d_dart_behind.fd ["web", "a", "b"] (spDartBehind K T.cS) := by
  refine HX.okN T.d_dart_behind.F sc_dart_behind (fun vs H Q E h => ?_) (fun cdv A outer s H vs Q E hr h => ?_)
  · obtain ⟨_, _, _, _, _, _, rfl, _⟩ := h
    rfl
  · obtain ⟨v, M, ys, d, a, b, rfl, hw, q1, q2⟩ := h
    refine ⟨_, (pss_cons (ps_expr (pe_call (ok_dart_or_raise T) (hr.mono (by decide)) (by rfl) T.d_dart_or_raise.m T.d_dart_or_raise.F.kp T.d_dart_or_raise.b .nil (L2N.passes_call (L2N.takes_of rfl rfl rfl rfl) fun _ _ _ _ h => h) (pa_cons (pv 0) (pa_cons (pv 1) (pa_cons (pv 2) pa_nil)))))
  (pss_one (ps_ret (pe_call (ok_next_dart T) (hr.mono (by decide)) (by rfl) T.d_next_dart.m T.d_next_dart.F.kp T.d_next_dart.b .nil pass0 (pa_cons (pe_call (ok_turn_table T) (hr.mono (by decide)) (by rfl) T.d_turn_table.m T.d_turn_table.F.kp T.d_turn_table.b .nil pass0 (pa_cons (pv 0) pa_nil)) (pa_cons (pe_tup (pa_cons (pv 1) (pa_cons (pv 2) pa_nil))) pa_nil)))))), ?_⟩
    refine ⟨_, rfl, _, rfl, _, rfl, v, M, ys, d, a, b, rfl, hw, fun hin H1 s1 => ?_, q2⟩
    obtain ⟨z, ⟨j, i, ws, hj, hi, hm, hz⟩, q⟩ := q1 hin
    refine ⟨_, rfl, v, M, ys, d, rfl, hw.1.mono (Tm.of s1), hw.2.1, hw.2.2.1, fun p hp => ?_⟩
    have s2 : Same H1 (upd H1 p (.dK (tabOf M ys))) := same_new hp
    refine ⟨_, rfl, _, rfl, (by show 2 ≤ sizeLine; decide), fun t ht => ?_⟩
    have s3 := s2.trans (same_new (o := .tup [V.str a, V.str b]) ht)
    have npt : p ≠ t := ne_of_none upd_same ht
    have hT := hw.1.tab (H' := upd (upd H1 p (.dK (tabOf M ys))) t (.tup [.str a, .str b])) (Tm.of (s1.trans s3)) (t := p) hw.2.2.1 (by rw [upd_ne npt, upd_same])
    refine ⟨p, t, M, ys, a, b, z, ws, j, i, rfl, hT, SqT.of upd_same, hj, hi, hm, hz, fun r hr' => ?_⟩
    have s4 := (s1.trans s3).trans (same_new (o := .tup [V.str b, V.str z]) hr')
    exact q r _ s4 (by
      cases e : H r with
      | none => rfl
      | some u =>
        rw [(s1.trans s3) r u e] at hr'
        cases hr') upd_same
/-- the ways ahead of and behind b, at a -/
def WaysAt (M : List Pl) (a b z u : Str) : Prop := ∃ (j i : Nat) (ws : List Str), M[j]? = some (a, ws) ∧ ws[i]? = some b ∧ (∀ m, m < i → ws[m]? ≠ some b) ∧ ws[(i + 1) % ws.length]? = some z ∧ ws[if i = 0 then ws.length - 1 else i - 1]? = some u
def spNextWays (K : PySem.W.Frag) (cS : Addr) : Sp := fun vs H Q E => ∃ (v : V) (M : List Pl) (ys : List Addr) (d : Str × Str) (a b : Str), vs = [v, .str a, .str b] ∧ Web K H v M ys d ∧
  (b ∈ waysOf M a → ∃ z u, WaysAt M a b z u ∧ ∀ p H', Same H H' → H p = none → H' p = some (.tup [.str z, .str u]) → Q (.ref p) H') ∧ (b ∉ waysOf M a → Rz cS H E "dart")
theorem ok_next_ways (T : Txt K mg) : FnOk P w K mg base (L2N.CX P w) 4 T.d_next_ways.f T.d_next_ways.fd ["web", "a", "b"] (spNextWays K T.cS) := by
  refine HX.okN T.d_next_ways.F sc_next_ways (fun vs H Q E h => ?_) (fun cdv A outer s H vs Q E hr h => ?_)
  · obtain ⟨_, _, _, _, _, _, rfl, _⟩ := h
    rfl
  · obtain ⟨v, M, ys, d, a, b, rfl, hw, q1, q2⟩ := h
    refine ⟨_, (pss_cons (ps_expr (pe_call (ok_dart_or_raise T) (hr.mono (by decide)) (by rfl) T.d_dart_or_raise.m T.d_dart_or_raise.F.kp T.d_dart_or_raise.b .nil (L2N.passes_call (L2N.takes_of rfl rfl rfl rfl) fun _ _ _ _ h => h) (pa_cons (pv 0) (pa_cons (pv 1) (pa_cons (pv 2) pa_nil)))))
  (pss_cons (ps_set (i := 3) sc_next_ways.nd rfl (Or.inl rfl) (pe_dget (hu_of hr) (pe_call (ok_turn_table T) (hr.mono (by decide)) (by rfl) T.d_turn_table.m T.d_turn_table.F.kp T.d_turn_table.b .nil pass0 (pa_cons (pv 0) pa_nil)) (pv 1) (fun _ _ => rfl)))
  (pss_one (ps_ret (pe_tup (pa_cons (pe_call (ok_way_behind T) (hr.mono (by decide)) (by rfl) T.d_way_behind.m T.d_way_behind.F.kp T.d_way_behind.b .nil pass0 (pa_cons (pv 3) (pa_cons (pv 2) pa_nil))) (pa_cons (pe_call (ok_way_ahead T) (hr.mono (by decide)) (by rfl) T.d_way_ahead.m T.d_way_ahead.F.kp T.d_way_ahead.b .nil pass0 (pa_cons (pv 3) (pa_cons (pv 2) pa_nil))) pa_nil))))))), ?_⟩
    refine ⟨_, rfl, _, rfl, _, rfl, v, M, ys, d, a, b, rfl, hw, fun hin H1 s1 => ?_, q2⟩
    obtain ⟨z, u, ⟨j, i, ws, hj, hi, hm, hz, hu⟩, q⟩ := q1 hin
    refine ⟨_, rfl, v, M, ys, d, rfl, hw.1.mono (Tm.of s1), hw.2.1, hw.2.2.1, fun p hp => ?_⟩
    have s2 : Same H (upd H1 p (.dK (tabOf M ys))) := s1.trans (same_new hp)
    have hT := hw.1.tab (H' := upd H1 p (.dK (tabOf M ys))) (Tm.of s2) (t := p) hw.2.2.1 upd_same
    have hjy : j < ys.length := by
      rw [hw.1.ylen]
      exact (List.getElem?_eq_some_iff.mp hj).1
    have hy : ys[j]? = some ys[j] := List.getElem?_eq_getElem hjy
    have hF := hT.2.2.2 j _ _ hj hy
    refine ⟨_, rfl, p, .ref ys[j], rfl, ?_, ?_⟩
    · show DGet _ p (kV (.inr a)) (some (.ref ys[j]))
      rw [← tab_val hw.2.2.1 hj hy]
      exact DGet.k upd_same
    · refine ⟨_, rfl, _, rfl, ys[j], ws, b, z, i, rfl, hF, hi, hm, hz, ?_⟩
      refine ⟨_, rfl, _, rfl, ys[j], ws, b, u, i, rfl, hF, hi, hm, hu, ?_⟩
      refine ⟨(by show 2 ≤ sizeLine; decide), fun t ht => ?_⟩
      exact q t _ (s2.trans (same_new ht)) (by
        cases e : H t with
        | none => rfl
        | some x =>
          rw [s2 t x e] at ht
          cases ht) upd_same
def g321 {α : Type} (us ws : List α) : List α := match us, ws with
  | [], [x, y, z] => [z, y, x]
  | _, _ => []
def g123 {α : Type} (us ws : List α) : List α := match us, ws with
  | [], [x, y, z] => [x, y, z]
  | _, _ => []
theorem kb_next_ways_b_a_web (T : Txt K mg) : KBinds K T.d_next_ways.fd ["web", "a", "b"] ["b", "a", "web"] g321 g321 := by
  obtain ⟨oc, od, kV, doc, pm, an, cdv, ct, osl, e, lk, hcd⟩ := T.d_next_ways.F.ex
  refine ⟨fun s us ws _ hl => ?_, fun r1 r2 => ?_⟩
  · rw [e]
    match us, ws, hl with
    | [], [x, y, z], _ => exact BindsTo.of_eq rfl
  · cases r1 with
    | cons _ _ => exact .nil
    | nil =>
      cases r2 with
      | nil => exact .nil
      | cons a r2 =>
        cases r2 with
        | nil => exact .nil
        | cons b r2 =>
          cases r2 with
          | nil => exact .nil
          | cons c r2 =>
            cases r2 with
            | nil => exact .cons c (.cons b (.cons a .nil))
            | cons _ _ => exact .nil
theorem kb_dart_behind_web_a_b (T : Txt K mg) : KBinds K T.d_dart_behind.fd ["web", "a", "b"] ["web", "a", "b"] g123 g123 := by
  obtain ⟨oc, od, kV, doc, pm, an, cdv, ct, osl, e, lk, hcd⟩ := T.d_dart_behind.F.ex
  refine ⟨fun s us ws _ hl => ?_, fun r1 r2 => ?_⟩
  · rw [e]
    match us, ws, hl with
    | [], [x, y, z], _ => exact BindsTo.of_eq rfl
  · cases r1 with
    | cons _ _ => exact .nil
    | nil =>
      cases r2 with
      | nil => exact .nil
      | cons a r2 =>
        cases r2 with
        | nil => exact .nil
        | cons b r2 =>
          cases r2 with
          | nil => exact .nil
          | cons c r2 =>
            cases r2 with
            | nil => exact .cons a (.cons b (.cons c .nil))
            | cons _ _ => exact .nil
end
end K2
namespace K2
open PySem PyProof.Rows L2 HD
section
variable {P : Program} {w : World} {K : PySem.W.Frag} {mg : Str → Option Value} {base : Heap}
def spNamesOf (K : PySem.W.Frag) : Sp := fun vs H Q _ => ∃ (v : V) (M : List Pl) (ys : List Addr) (d : Str × Str), vs = [v] ∧ Web K H v M ys d ∧ ∀ p H', Same H H' → H' p = some (.tup ((M.map (·.1)).map V.str)) → Q (.ref p) H'
theorem ok_names_of (T : Txt K mg) : FnOk P w K mg base CX0 1 T.d_names_of.f T.d_names_of.fd ["web"] (spNamesOf K) := by
  refine T.d_names_of.F.ok sc_names_of (fun vs H Q E h => ?_) (fun cdv A outer s H vs Q E hr h => ?_)
  · obtain ⟨_, _, _, _, rfl, _⟩ := h
    rfl
  · obtain ⟨v, M, ys, d, rfl, ⟨hw, hl, hn, hdl⟩, q⟩ := h
    refine ⟨_, (pss_one (ps_ret (pe_callTy call_tuple_of (by rfl) T.n_tuple (by decide +kernel) (pa_cons (pe_lc (g := (gTup K 2 (gCons (gName 1) (gCons (gName 2) gNil)))) (tt := _) (te := (tVar 1)) (own := [("name", 1), ("_", 2)]) rfl sc_names_of.nd (pi_tup (pe_ix ix_tup (pv 0) pe_int (fun _ _ => rfl))) (blkOk_by (own := [("name", 1), ("_", 2)]) (N := ["web", "name", "_"]) (sc := defScope s_names_of) (by decide +kernel)) (fun _ _ _ _ _ => by refine (pg_tup ?_ ?_); (exact rfl); (refine (pgs_cons ?_ ?_); (refine (pg_name (i := 1) ?_ ?_ ?_); (exact sc_names_of.nd); (exact rfl); (exact (Or.inl rfl))); (refine (pgs_cons ?_ ?_); (refine (pg_name (i := 2) ?_ ?_ ?_); (exact sc_names_of.nd); (exact rfl); (exact (Or.inl rfl))); (exact pgs_nil)))) (fun _ _ _ _ _ => by exact pts_nil) (fun _ _ _ _ _ => by exact (pv 1))) pa_nil)))), ?_⟩
    obtain ⟨a, b, c, xs, rfl, h1, h2, h3, h4⟩ := hw
    refine ⟨_, rfl, a, _, _, _, rfl, rfl, h1, rfl, b, rfl, ⟨_, h2⟩, fun D hD => lc_tup (K := K) (a := b) (xs := xs) (fun i H' => Same H H' ∧ H' D = some (.lst (((M.map (·.1)).take i).map V.str))) ?_ ?_ ?_ ?_⟩
    · exact ⟨same_new hD, upd_same⟩
    · rintro i H' _ ⟨s0, _⟩
      exact (Tm.of s0).sqT h2
    · rintro i x H' hi ⟨s0, hDa⟩
      obtain ⟨a', p, y, rfl, hp, hy, hs, hf⟩ := h3.get hi
      refine ⟨a', _, rfl, (Tm.of s0).sqT hs, rfl, _, _, rfl, _, _, rfl, rfl, ?_⟩
      refine ⟨rfl, ?_⟩
      refine ⟨_, rfl, _, hDa, ?_, s0.put hD, ?_⟩
      · rw [List.length_map, List.length_take, List.length_map]
        exact Nat.lt_of_le_of_lt (Nat.le_trans (Nat.min_le_right _ _) hl) (by decide : 1000 < sizeLine)
      · rw [upd_same, take_snoc (l := M.map (·.1)) (x := p.1) (by rw [List.getElem?_map, hp]; rfl), List.map_append]
        rfl
    · rintro H' ⟨s0, hDa⟩
      have e1 : (M.map (·.1)).take xs.length = M.map (·.1) := List.take_of_length_le (by rw [h3.len.1, List.length_map]; exact Nat.le_refl _)
      rw [e1] at hDa
      exact ⟨D, _, rfl, .inl ⟨SqL.of hDa, fun l hl' => q l _ (s0.trans (same_new hl')) upd_same⟩⟩
def spDartsOf (K : PySem.W.Frag) (f : List Pl → List (Str × Str)) : Sp := fun vs H Q _ => ∃ (v : V) (M : List Pl) (ys : List Addr) (d : Str × Str), vs = [v] ∧ Web K H v M ys d ∧ ∀ p H' xs, Same H H' → H' p = some (.tup xs) → TdAll K H' xs ((f M).map encD) → Q (.ref p) H'
theorem ok_darts_of (T : Txt K mg) : FnOk P w K mg base CX0 2 T.d_darts_of.f T.d_darts_of.fd ["web"] (spDartsOf K darts) := by
  refine T.d_darts_of.F.ok sc_darts_of (fun vs H Q E h => ?_) (fun cdv A outer s H vs Q E hr h => ?_)
  · obtain ⟨_, _, _, _, rfl, _⟩ := h
    rfl
  · obtain ⟨v, M, ys, d, rfl, ⟨hw, hl, hn, hdl⟩, q⟩ := h
    refine ⟨_, (pss_one (ps_ret (pe_callTy call_tuple_of (by rfl) T.n_tuple (by decide +kernel) (pa_cons (pe_call (ok_dart_list T) (hr.mono (by decide)) (by rfl) T.d_dart_list.m T.d_dart_list.F.kp T.d_dart_list.b .nil pass0 (pa_cons (pv 0) pa_nil)) pa_nil)))), ?_⟩
    refine ⟨_, rfl, v, M, ys, d, rfl, hw, hdl, fun p H' xs hp s1 hx td => ?_⟩
    refine ⟨p, xs, rfl, .inl ⟨SqL.of hx, fun l hl' => ?_⟩⟩
    have s2 : Same H' (upd H' l (.tup xs)) := same_new hl'
    exact q l _ xs (s1.trans s2) upd_same (td.mono (Tm.of s2))
def links (M : List Pl) : List (Str × Str) := (darts M).filter fun d => ltS d.1 d.2
def spLinkList (K : PySem.W.Frag) : Sp := fun vs H Q _ => ∃ (v : V) (M : List Pl) (ys : List Addr) (d : Str × Str), vs = [v] ∧ Web K H v M ys d ∧ ∀ p H' xs, Same H H' → H' p = some (.lst xs) → TdAll K H' xs ((links M).map encD) → Q (.ref p) H'
theorem ok_link_list (T : Txt K mg) : FnOk P w K mg base CX0 2 T.d_link_list.f T.d_link_list.fd ["web"] (spLinkList K) := by
  refine T.d_link_list.F.ok sc_link_list (fun vs H Q E h => ?_) (fun cdv A outer s H vs Q E hr h => ?_)
  · obtain ⟨_, _, _, _, rfl, _⟩ := h
    rfl
  · obtain ⟨v, M, ys, d, rfl, ⟨hw, hl, hn, hdl⟩, q⟩ := h
    refine ⟨_, (pss_one (ps_ret (pe_lc (g := (gTup K 2 (gCons (gName 1) (gCons (gName 2) gNil)))) (tt := (tTest (tOp rLtS (tVar 1) (tVar 2)))) (te := (tTup (tCons (tVar 1) (tCons (tVar 2) tNil)))) (own := [("name", 1), ("other", 2)]) rfl sc_link_list.nd (pi_list (pe_call (ok_dart_list T) (hr.mono (by decide)) (by rfl) T.d_dart_list.m T.d_dart_list.F.kp T.d_dart_list.b .nil pass0 (pa_cons (pv 0) pa_nil))) (blkOk_by (own := [("name", 1), ("other", 2)]) (N := ["web", "name", "other"]) (sc := defScope s_link_list) (by decide +kernel)) (fun _ _ _ _ _ => by refine (pg_tup ?_ ?_); (exact rfl); (refine (pgs_cons ?_ ?_); (refine (pg_name (i := 1) ?_ ?_ ?_); (exact sc_link_list.nd); (exact rfl); (exact (Or.inl rfl))); (refine (pgs_cons ?_ ?_); (refine (pg_name (i := 2) ?_ ?_ ?_); (exact sc_link_list.nd); (exact rfl); (exact (Or.inl rfl))); (exact pgs_nil)))) (fun _ _ _ _ _ => by refine (pts_one ?_); (refine (pt_cmpR op_lt_str ?_ ?_ (nomark _)); (exact (pv 1)); (exact (pv 2)))) (fun _ _ _ _ _ => by refine (pe_tup ?_); (refine (pa_cons ?_ ?_); (exact (pv 1)); (refine (pa_cons ?_ ?_); (exact (pv 2)); (exact pa_nil))))))), ?_⟩
    refine ⟨_, rfl, v, M, ys, d, rfl, hw, hdl, fun p H1 xs hp s1 hx td => ?_⟩
    refine ⟨p, rfl, ⟨_, SqL.of hx⟩, fun D hD => lc_list (K := K) (a := p) (xs := xs) (fun i H' => Same H1 H' ∧ ∃ acc, H' D = some (.lst acc) ∧ TdAll K H' acc ((((darts M).take i).filter fun d => ltS d.1 d.2).map encD)) ?_ ?_ ?_ ?_⟩
    · exact ⟨same_new hD, [], upd_same, .nil⟩
    · rintro i H' _ ⟨s0, _⟩
      exact SqL.of (s0 _ _ hx)
    · rintro i x H' hi ⟨s0, acc, hDa, hda⟩
      obtain ⟨e, he, hde⟩ := td.get hi
      rw [List.getElem?_map] at he
      obtain ⟨dd, hdd, rfl⟩ : ∃ dd, (darts M)[i]? = some dd ∧ e = encD dd := by
        cases z : (darts M)[i]? with
        | none => rw [z] at he; cases he
        | some u => rw [z] at he; exact ⟨u, rfl, (Option.some.inj he).symm⟩
      obtain ⟨a, rfl, hs⟩ := td_dart_inv hde
      refine ⟨a, _, rfl, (Tm.of s0).sqT hs, rfl, _, _, rfl, _, _, rfl, rfl, ?_⟩
      refine ⟨rfl, ?_⟩
      refine ⟨_, rfl, _, rfl, _, _, rfl, rfl, _, rfl, ?_⟩
      show if ltS dd.1 dd.2 = true then _ else _
      rw [take_snoc hdd, List.filter_append]
      by_cases h : ltS dd.1 dd.2 = true
      · rw [if_pos h, List.filter_cons_of_pos (by exact h), List.filter_nil, List.map_append]
        refine ⟨_, rfl, _, rfl, (by show 2 ≤ sizeLine; decide), fun t ht => ?_⟩
        have s3 : Same H' (upd H' t (.tup [.str dd.1, .str dd.2])) := same_new ht
        have nDt : D ≠ t := ne_of_none hDa ht
        refine ⟨acc, s3 _ _ hDa, ?_, (s0.trans s3).put hD, acc ++ [.ref t], upd_same, ?_⟩
        · rw [hda.length, List.length_map]
          refine Nat.lt_of_le_of_lt (Nat.le_trans (List.length_filter_le _ _) ?_) (by decide : 1000 < sizeLine)
          rw [List.length_take]
          exact Nat.le_trans (Nat.min_le_right _ _) hdl
        · have tm : Tm H' (upd (upd H' t (.tup [.str dd.1, .str dd.2])) D (.lst (acc ++ [.ref t]))) := (Tm.of s3).trans (Tm.lst (s3 _ _ hDa))
          exact (hda.mono tm).append (.cons (td_dart (d := dd) (SqT.of (by rw [upd_ne nDt.symm, upd_same]))) .nil)
      · rw [if_neg h, List.filter_cons_of_neg (by exact h), List.filter_nil, List.append_nil]
        exact ⟨s0, acc, hDa, hda⟩
    · rintro H' ⟨s0, acc, hDa, hda⟩
      have e1 : (darts M).take xs.length = darts M := List.take_of_length_le (by rw [td.length, List.length_map]; exact Nat.le_refl _)
      rw [e1] at hda
      exact q D H' acc (s1.trans s0) hDa hda
theorem ok_links_of (T : Txt K mg) : FnOk P w K mg base CX0 3 T.d_links_of.f T.d_links_of.fd ["web"] (spDartsOf K links) := by
  refine T.d_links_of.F.ok sc_links_of (fun vs H Q E h => ?_) (fun cdv A outer s H vs Q E hr h => ?_)
  · obtain ⟨_, _, _, _, rfl, _⟩ := h
    rfl
  · obtain ⟨v, M, ys, d, rfl, hw, q⟩ := h
    refine ⟨_, (pss_one (ps_ret (pe_callTy call_tuple_of (by rfl) T.n_tuple (by decide +kernel) (pa_cons (pe_call (ok_link_list T) (hr.mono (by decide)) (by rfl) T.d_link_list.m T.d_link_list.F.kp T.d_link_list.b .nil pass0 (pa_cons (pv 0) pa_nil)) pa_nil)))), ?_⟩
    refine ⟨_, rfl, v, M, ys, d, rfl, hw, fun p H' xs s1 hx td => ?_⟩
    refine ⟨p, xs, rfl, .inl ⟨SqL.of hx, fun l hl' => ?_⟩⟩
    have s2 : Same H' (upd H' l (.tup xs)) := same_new hl'
    exact q l _ xs (s1.trans s2) upd_same (td.mono (Tm.of s2))
end
end K2
namespace K2
open PySem PyProof.Rows L2 HD
/-- while, the next state told within the turn -/
theorem while_in {c : TT} {tb : TS} {D : Ends} {σ : L2.St} {H : Hp} (Pv : L2.St → Hp → Prop) (μ : L2.St → Hp → Nat) (h0 : Pv σ H)
    (hs : ∀ σ H, Pv σ H → c σ H fun b H1 => if b = true then ∃ N : L2.St → Hp → Prop, (∀ σ' H', N σ' H' → ∃ m', m' < μ σ H ∧ m' = μ σ' H' ∧ Pv σ' H') ∧ tb { D with nx := N, ct := N, bk := D.nx } σ H1 else D.nx σ H1) : tWhile c tb D σ H := by
  refine ⟨fun m σ H => m = μ σ H ∧ Pv σ H, ⟨_, rfl, h0⟩, ?_⟩
  rintro m σ H ⟨rfl, p⟩
  exact hs σ H p
abbrev big : Int := 10 ^ 60 * 10 ^ 60 * 10 ^ 60 * 10 ^ 60
/-- the tin stands at t, its heap at h -/
def TinV (H : Hp) (t h : Addr) (cs : List Int) (m : Int) : Prop := H t = some (.lst [.ref h, .int m]) ∧ H h = some (.lst (cs.map V.int)) ∧ t ≠ h ∧ cs.length ≤ 63 ∧ (∀ c ∈ cs, 0 ≤ c ∧ c < big) ∧ 0 ≤ m ∧ m < 2 ^ 33
def Tin (H : Hp) (t h : Addr) : Prop := ∃ (cs : List Int) (m : Int), TinV H t h cs m
/-- all but the tin stays -/
def Rst (t h : Addr) (H H' : Hp) : Prop := ∀ a o, a ≠ t → a ≠ h → H a = some o → H' a = some o
theorem Rst.refl {t h : Addr} (H : Hp) : Rst t h H H := fun _ _ _ _ e => e
theorem Rst.trans {t h : Addr} {H H1 H2 : Hp} (x : Rst t h H H1) (y : Rst t h H1 H2) : Rst t h H H2 := fun a o n1 n2 e => y a o n1 n2 (x a o n1 n2 e)
theorem Rst.of {t h : Addr} {H H' : Hp} (s : Same H H') : Rst t h H H' := fun a o _ _ e => s a o e
theorem Rst.tm {t h : Addr} {H H' : Hp} (x : Rst t h H H') (T : Tin H t h) : Tm H H' := fun a u e i => by
  obtain ⟨cs, m, h1, h2, _⟩ := T
  refine x a u (fun z => ?_) (fun z => ?_) e
  · rw [z, h1] at e
    cases e
    exact i
  · rw [z, h2] at e
    cases e
    exact i
theorem Tin.same {t h : Addr} {H H' : Hp} (T : Tin H t h) (s : Same H H') : Tin H' t h := by
  obtain ⟨cs, m, h1, h2, r⟩ := T
  exact ⟨cs, m, s _ _ h1, s _ _ h2, r⟩
theorem Rst.put {t h : Addr} {H H' : Hp} {D : Addr} {o : HO} (x : Rst t h H H') (n : H D = none) : Rst t h H (upd H' D o) := fun a u n1 n2 e => by
  rw [upd_ne (ne_of_none e n)]
  exact x a u n1 n2 e
theorem Tin.put {t h : Addr} {H : Hp} {D : Addr} {o : HO} (T : Tin H t h) (n1 : t ≠ D) (n2 : h ≠ D) : Tin (upd H D o) t h := by
  obtain ⟨cs, m, h1, h2, r⟩ := T
  exact ⟨cs, m, by rw [upd_ne n1]; exact h1, by rw [upd_ne n2]; exact h2, r⟩
section
variable {P : Program} {w : World} {K : PySem.W.Frag} {mg : Str → Option Value} {base : Heap}
def spTin (K : PySem.W.Frag) : Sp := fun vs H Q _ => ∃ (a : Addr) (ns : List Int), vs = [.ref a] ∧ SqL K H a (ns.map V.int) ∧ ns.length ≤ 63 ∧ ∀ t h H', Same H H' → Tin H' t h → Q (.ref t) H'
theorem ok_law_tin (T : Txt K mg) : FnOk P w K mg base CX0 1 T.d_law_tin.f T.d_law_tin.fd ["script"] (spTin K) := by
  refine T.d_law_tin.F.ok sc_law_tin (fun vs H Q E h => ?_) (fun cdv A outer s H vs Q E hr h => ?_)
  · obtain ⟨_, _, rfl, _⟩ := h
    rfl
  · obtain ⟨a, ns, rfl, hS, hl, q⟩ := h
    refine ⟨_, (pss_cons (ps_set (i := 1) sc_law_tin.nd rfl (Or.inl rfl) (pe_lst pa_nil))
  (pss_cons (ps_set (i := 2) sc_law_tin.nd rfl (Or.inl rfl) pe_int)
  (pss_cons (ps_for PassesOwn.never rfl (pi_range1 (by rfl) T.n_range (pa_cons (pe_callB (call_min2 rfl) (by rfl) T.n_min (by decide +kernel) (pa_cons (pe_callB call_len (by rfl) T.n_len (by decide +kernel) (pa_cons (pv 0) pa_nil)) (pa_cons pe_int pa_nil))) pa_nil)) (pg_name (i := 3) sc_law_tin.nd rfl (Or.inl rfl))
    (pss_cons (ps_set (i := 4) sc_law_tin.nd rfl (Or.inl rfl) (pe_callB call_abs (by rfl) T.n_abs (by decide +kernel) (pa_cons (pe_callTy call_int1 (by rfl) T.n_int (by decide +kernel) (pa_cons (pe_ix ix_list (pv 0) (pv 3) (fun _ _ => rfl)) pa_nil)) pa_nil)))
  (pss_cons (ps_set (i := 2) sc_law_tin.nd rfl (Or.inl rfl) (pe_op op_modN (pe_callTy call_int1 (by rfl) T.n_int (by decide +kernel) (pa_cons (pe_op op_add (pe_op op_add (pe_op op_mulW (pv 2) pe_int) (pe_op op_mulW (pe_op op_modN (pv 4) pe_int) pe_int)) (pe_op op_mulW pe_int (pv 3))) pa_nil)) pe_int))
  (pss_one (ps_if (pt_cmpR op_ge (pv 4) (pe_op op_pow pe_int pe_int) (nomark _))
    (pss_one (ps_expr (pe_bm PySem.F.plainAttrs_list PySem.F.slot_list_append PySem.F.type_list_append mt_append (pv 1) (pa_cons (pe_op op_modN (pv 4) (pe_op op_mulW (pe_op op_mulW (pe_op op_mulW (pe_op op_pow pe_int pe_int) (pe_op op_pow pe_int pe_int)) (pe_op op_pow pe_int pe_int)) (pe_op op_pow pe_int pe_int))) pa_nil))))
    pss_nil)))))
  (pss_one (ps_ret (pe_lst (pa_cons (pv 1) (pa_cons (pe_op op_add (pv 2) pe_int) pa_nil)))))))), ?_⟩
    refine ⟨(by show 0 ≤ sizeLine; decide), fun hh hh0 => ?_⟩
    have s1 : Same H (upd H hh (.lst [])) := same_new hh0
    refine ⟨_, rfl, _, _, rfl, .inl ⟨_, s1.seq hS, rfl⟩, ?_⟩
    refine ⟨_, _, rfl, ?_⟩
    have e1 : (if (63 : Int) < (((ns.map V.int).length : Nat) : Int) then (63 : Int) else (((ns.map V.int).length : Nat) : Int)) = (ns.length : Int) := by
      rw [List.length_map]
      exact if_neg (by omega)
    refine ⟨(ns.length : Int), by rw [e1], by omega, by omega, for_range (lo := 0) (n := (ns.length : Int).toNat) (fun i σ H' => Same H H' ∧ ∃ (cs : List Int) (m : Int) (u v : Option V), σ = [some (.ref a), some (.ref hh), some (.int m), u, v] ∧ H' hh = some (.lst (cs.map V.int)) ∧ cs.length ≤ i ∧ (∀ c ∈ cs, 0 ≤ c ∧ c < big) ∧ 0 ≤ m ∧ m < 2 ^ 32) ?_ ?_ ?_⟩
    · exact ⟨s1, [], 30103, _, _, rfl, upd_same, Nat.le_refl _, fun c h => (nomatch h), by decide, by decide⟩
    · rintro i σ H' hi ⟨s2, cs, m, u, v, rfl, hH, hc, hb, m0, m1⟩
      have hi' : i < ns.length := by simpa using hi
      refine ⟨_, rfl, _, rfl, a, _, _, V.int ns[i], rfl, rfl, s2.seq hS, ?_, ?_⟩
      · rw [show (0 : Int) + (i : Int) = ((i : Nat) : Int) by omega]
        exact atI_nat (by rw [List.getElem?_map, List.getElem?_eq_getElem hi']; rfl)
      refine .inl ⟨_, rfl, _, rfl, ?_⟩
      have hcell : 0 ≤ if ns[i] < 0 then -ns[i] else ns[i] := by split <;> omega
      have hmod : 0 ≤ (if ns[i] < 0 then -ns[i] else ns[i]).fmod 1000003 ∧ (if ns[i] < 0 then -ns[i] else ns[i]).fmod 1000003 < 1000003 := ⟨Int.fmod_nonneg_of_pos _ (by decide), Int.fmod_lt_of_pos _ (by decide)⟩
      refine ⟨_, rfl, _, _, rfl, rfl, wide_mul (a := 33) (b := 20) (by omega) (by decide) (by decide) (by decide) (by decide), ?_⟩
      refine ⟨_, rfl, _, _, rfl, rfl, (by show (1000003 : Int) ≠ 0; decide), ?_⟩
      refine ⟨_, _, rfl, rfl, wide_mul (a := 33) (b := 20) (by omega) (by decide) (by decide) (by decide) (by decide), _, _, rfl, rfl, ?_⟩
      refine ⟨_, rfl, _, _, rfl, rfl, wide_mul (a := 33) (b := 20) (by decide) (by omega) (by decide) (by decide) (by decide), _, _, rfl, rfl, ?_⟩
      refine .inl ⟨_, rfl, _, _, rfl, rfl, (by show (4294967291 : Int) ≠ 0; decide), ?_⟩
      have m2 : 0 ≤ (m * 69621 + (if ns[i] < 0 then -ns[i] else ns[i]).fmod 1000003 * 41 + 17 * (0 + (i : Int))).fmod 4294967291 ∧ (m * 69621 + (if ns[i] < 0 then -ns[i] else ns[i]).fmod 1000003 * 41 + 17 * (0 + (i : Int))).fmod 4294967291 < 2 ^ 32 :=
        ⟨Int.fmod_nonneg_of_pos _ (by decide), Int.lt_trans (Int.fmod_lt_of_pos _ (by decide)) (by decide)⟩
      refine ⟨_, rfl, _, _, rfl, rfl, ⟨by decide, by decide, by decide⟩, _, _, rfl, rfl, _, rfl, ?_⟩
      refine ite2 (fun _ => ?_) (fun _ => ?_)
      · refine ⟨_, rfl, .inl ⟨rfl, _, SqL.of hH⟩, ?_⟩
        have p1 : ∀ {x : Int}, x.natAbs < 2 ^ 700 → CMulW x (10 ^ (60 : Int).toNat) := fun h => wide_mul (a := 700) (b := 200) h (by decide +kernel) (by decide) (by decide) (by decide)
        refine ⟨_, rfl, _, _, rfl, rfl, ⟨by decide, by decide, by decide⟩, _, _, rfl, rfl, ⟨by decide, by decide, by decide⟩, _, _, rfl, rfl, p1 (by decide +kernel), ?_⟩
        refine ⟨_, _, rfl, rfl, ⟨by decide, by decide, by decide⟩, _, _, rfl, rfl, p1 (by decide +kernel), ?_⟩
        refine ⟨_, _, rfl, rfl, ⟨by decide, by decide, by decide⟩, _, _, rfl, rfl, p1 (by decide +kernel), ?_⟩
        refine ⟨_, _, rfl, rfl, (by show (10 ^ (60 : Int).toNat * 10 ^ (60 : Int).toNat * 10 ^ (60 : Int).toNat * 10 ^ (60 : Int).toNat : Int) ≠ 0; decide +kernel), ?_⟩
        refine ⟨hh, _, _, rfl, rfl, hH, ?_, s2.put hh0, cs ++ [(if ns[i] < 0 then -ns[i] else ns[i]).fmod big], _, _, _, rfl, ?_, ?_, ?_, m2.1, m2.2⟩
        · rw [List.length_map]
          exact Nat.lt_of_le_of_lt (by omega : cs.length ≤ 63) (by decide)
        · rw [upd_same, List.map_append]
          rfl
        · rw [List.length_append]
          exact Nat.succ_le_succ hc
        · intro c hcm
          rcases List.mem_append.mp hcm with z | z
          · exact hb c z
          · rw [List.mem_singleton.mp z]
            exact ⟨Int.fmod_nonneg_of_pos _ (by decide +kernel), Int.fmod_lt_of_pos _ (by decide +kernel)⟩
      · exact ⟨s2, cs, _, _, _, rfl, hH, Nat.le_succ_of_le hc, hb, m2.1, m2.2⟩
    · rintro σ H' ⟨s2, cs, m, u, v, rfl, hH, hc, hb, m0, m1⟩
      refine ⟨_, rfl, _, rfl, _, _, rfl, rfl, (by show 2 ≤ sizeLine; decide), fun t ht => ?_⟩
      have nh : hh ≠ t := ne_of_none hH ht
      refine q t hh _ (s2.trans (same_new ht)) ⟨cs, m + 1, upd_same, by rw [upd_ne nh]; exact hH, nh.symm, ?_, hb, by omega, by omega⟩
      exact Nat.le_trans hc (by simpa using hl)
def spSpill : Sp := fun vs H Q _ => ∃ (t h : Addr) (n : Int), vs = [.ref t, .int n] ∧ 0 < n ∧ n < 2 ^ 29 ∧ Tin H t h ∧ ∀ (r : Nat) H', (r : Int) < n → Rst t h H H' → Tin H' t h → Q (.int r) H'
theorem ok_law_spill (T : Txt K mg) : FnOk P w K mg base CX0 1 T.d_law_spill.f T.d_law_spill.fd ["tin", "many"] spSpill := by
  refine T.d_law_spill.F.ok sc_law_spill (fun vs H Q E h => ?_) (fun cdv A outer s H vs Q E hr h => ?_)
  · obtain ⟨_, _, _, rfl, _⟩ := h
    rfl
  · obtain ⟨t, hh, n, rfl, n0, n1, hT, q⟩ := h
    refine ⟨_, (pss_cons (ps_mid (ps_while PassesOwn.never (pt_mid (PW.pt (pw_and (pt_cmpR op_gt (pe_callB call_len (by rfl) T.n_len (by decide +kernel) (pa_cons (pe_ix ix_list (pv 0) pe_int (fun _ _ => rfl)) pa_nil)) pe_int (nomark _)) (pw_and1 (pt_cmpR op_eq (pe_ix ix_list (pe_ix ix_list (pv 0) pe_int (fun _ _ => rfl)) pe_int (fun _ _ => rfl)) pe_int (nomark _))))))
    (pss_one (ps_expr (pe_bm PySem.F.plainAttrs_list PySem.F.slot_list_pop PySem.F.type_list_pop mt_popAt (pe_ix ix_list (pv 0) pe_int (fun _ _ => rfl)) (pa_cons pe_int pa_nil))))))
  (pss_cons (ps_if (pt_cmpR op_gt (pe_callB call_len (by rfl) T.n_len (by decide +kernel) (pa_cons (pe_ix ix_list (pv 0) pe_int (fun _ _ => rfl)) pa_nil)) pe_int (nomark _))
    (pss_cons (ps_set (i := 2) sc_law_spill.nd rfl (Or.inl rfl) (pe_callTy call_int1 (by rfl) T.n_int (by decide +kernel) (pa_cons (pe_ix ix_list (pe_ix ix_list (pv 0) pe_int (fun _ _ => rfl)) pe_int (fun _ _ => rfl)) pa_nil)))
  (pss_cons (ps_asg (pe_op op_fdivN (pv 2) (pv 1)) (pg_sub (pe_ix ix_list (pv 0) pe_int (fun _ _ => rfl)) pe_int set_list))
  (pss_one (ps_ret (pe_op op_modN (pv 2) (pv 1))))))
    pss_nil)
  (pss_cons (ps_asg (pe_op op_modN (pe_callTy call_int1 (by rfl) T.n_int (by decide +kernel) (pa_cons (pe_op op_add (pe_op op_mulW (pe_ix ix_list (pv 0) pe_int (fun _ _ => rfl)) pe_int) pe_int) pa_nil)) pe_int) (pg_sub (pv 0) pe_int set_list))
  (pss_one (ps_ret (pe_op op_modN (pe_callTy call_int1 (by rfl) T.n_int (by decide +kernel) (pa_cons (pe_op op_fdivN (pe_ix ix_list (pv 0) pe_int (fun _ _ => rfl)) pe_int) pa_nil)) (pv 1))))))), ?_⟩
    refine ⟨fun σ H' => σ = [some (.ref t), some (.int n), none] ∧ Rst t hh H H' ∧ Tin H' t hh, while_in (fun σ H' => σ = [some (.ref t), some (.int n), none] ∧ Rst t hh H H' ∧ Tin H' t hh) (fun _ H' => match H' hh with | some (.lst xs) => xs.length | _ => 0) ⟨rfl, Rst.refl H, hT⟩ ?_, ?_⟩
    · rintro σ H1 ⟨rfl, r1, cs, m, ht, hc, ne, hl, hb, m0, m1⟩
      refine ⟨fun b H2 => H2 = H1 ∧ (b = true → 0 < cs.length), ?_, ?_⟩
      · refine ⟨_, rfl, t, _, _, V.ref hh, rfl, rfl, SqL.of ht, rfl, ?_⟩
        refine ⟨_, _, rfl, .inl ⟨_, SqL.of hc, rfl⟩, _, _, rfl, rfl, _, rfl, ?_⟩
        refine ite2 (fun h => ?_) (fun h => ⟨rfl, fun z => nomatch z⟩)
        have hp : 0 < cs.length := by
          have := of_decide_eq_true h
          rw [List.length_map] at this
          omega
        refine ⟨_, rfl, t, _, _, V.ref hh, rfl, rfl, SqL.of ht, rfl, hh, _, _, V.int cs[0], rfl, rfl, SqL.of hc, atI_nat (j := 0) (by rw [List.getElem?_map, List.getElem?_eq_getElem hp]; rfl), rfl, _, rfl, rfl, fun _ => hp⟩
      · rintro b H2 ⟨rfl, hb2⟩
        refine ite2 (fun hbt => ?_) (fun _ => ⟨rfl, r1, cs, m, ht, hc, ne, hl, hb, m0, m1⟩)
        have hp := hb2 hbt
        obtain ⟨c0, cs', rfl⟩ : ∃ c0 cs', cs = c0 :: cs' := by
          cases cs with
          | nil => exact absurd hp (Nat.lt_irrefl _)
          | cons a b => exact ⟨a, b, rfl⟩
        refine ⟨_, fun σ' H' z => z, ?_⟩
        refine ⟨_, rfl, t, _, _, V.ref hh, rfl, rfl, SqL.of ht, rfl, .inl ⟨rfl, _, SqL.of hc⟩, hh, _, 0, 0, V.int c0, rfl, rfl, hc, by decide, by decide, ?_, rfl, ?_⟩
        · unfold seqIndex?
          simp
        · refine ⟨cs'.length, ?_, ?_, rfl, ?_, cs', m, ?_, ?_, ne, ?_, ?_, m0, m1⟩
          · rw [hc]
            simp
          · rw [upd_same]
            simp
          · exact fun a o n1 n2 e => by rw [upd_ne n2]; exact r1 a o n1 n2 e
          · rw [upd_ne ne]
            exact ht
          · rw [upd_same]
            rfl
          · exact Nat.le_of_succ_le hl
          · exact fun c hc' => hb c (List.mem_cons_of_mem _ hc')
    · rintro σ H1 ⟨rfl, r1, cs, m, ht, hc, ne, hl, hb, m0, m1⟩
      refine ⟨_, rfl, t, _, _, V.ref hh, rfl, rfl, SqL.of ht, rfl, ?_⟩
      refine ⟨_, _, rfl, .inl ⟨_, SqL.of hc, rfl⟩, _, _, rfl, rfl, _, rfl, ?_⟩
      refine ite2 (fun h => ?_) (fun h => ?_)
      · obtain ⟨c0, cs', rfl⟩ : ∃ c0 cs', cs = c0 :: cs' := by
          cases cs with
          | nil => exact absurd h (by decide)
          | cons a b => exact ⟨a, b, rfl⟩
        have hb0 := hb c0 (List.mem_cons_self ..)
        refine ⟨_, rfl, t, _, _, V.ref hh, rfl, rfl, SqL.of ht, rfl, hh, _, _, V.int c0, rfl, rfl, SqL.of hc, atI_nat (j := 0) rfl, .inl ⟨_, rfl, ?_⟩⟩
        refine ⟨_, rfl, _, rfl, _, _, rfl, rfl, ⟨by omega, by omega⟩, ?_⟩
        refine ⟨_, rfl, t, _, _, V.ref hh, rfl, rfl, SqL.of ht, rfl, hh, _, _, 0, rfl, rfl, hc, (by unfold ixN; simp), ?_⟩
        refine ⟨_, rfl, _, rfl, _, _, rfl, rfl, (by show n ≠ 0; omega), ?_⟩
        have hm0 := Int.fmod_nonneg_of_pos c0 n0
        have hm1 := Int.fmod_lt_of_pos c0 n0
        have er : c0.fmod n = ((c0.fmod n).toNat : Int) := (Int.toNat_of_nonneg hm0).symm
        have qq : ∀ H', Rst t hh H H' → Tin H' t hh → Q (.int (c0.fmod n)) H' := fun H' => by
          have z := q (c0.fmod n).toNat H' (by rw [← er]; exact hm1)
          rw [← er] at z
          exact z
        refine qq _ (fun a o n1 n2 e => by rw [upd_ne n2]; exact r1 a o n1 n2 e) ⟨c0.fdiv n :: cs', m, ?_, ?_, ne, hl, ?_, m0, m1⟩
        · rw [upd_ne ne]
          exact ht
        · rw [upd_same]
          rfl
        · intro c hc'
          rcases List.mem_cons.mp hc' with rfl | hc'
          · have e : c0.fdiv n = c0 / n := Int.fdiv_eq_ediv_of_nonneg _ (by omega)
            rw [e]
            exact ⟨Int.ediv_nonneg hb0.1 (by omega), Int.lt_of_le_of_lt (Int.ediv_le_self _ hb0.1) hb0.2⟩
          · exact hb c (List.mem_cons_of_mem _ hc')
      · have hcs : cs = [] := by
          cases cs with
          | nil => rfl
          | cons a b => exact absurd (show decide ((0 : Int) < (((a :: b).map V.int).length : Nat)) = true from decide_eq_true (by rw [List.length_map, List.length_cons]; omega)) h
        subst hcs
        refine ⟨_, rfl, t, _, _, V.int m, rfl, rfl, SqL.of ht, rfl, ?_⟩
        refine ⟨_, _, rfl, rfl, wide_mul (a := 33) (b := 20) (by omega) (by decide) (by decide) (by decide) (by decide), _, _, rfl, rfl, ?_⟩
        refine .inl ⟨_, rfl, _, _, rfl, rfl, (by show (2147483647 : Int) ≠ 0; decide), ?_⟩
        have k0 : 0 ≤ (m * 40692 + 211).fmod 2147483647 := Int.fmod_nonneg_of_pos _ (by decide)
        have k1 : (m * 40692 + 211).fmod 2147483647 < 2147483647 := Int.fmod_lt_of_pos _ (by decide)
        refine ⟨_, rfl, t, _, _, 1, rfl, rfl, ht, rfl, ?_⟩
        refine ⟨_, rfl, t, _, _, V.int ((m * 40692 + 211).fmod 2147483647), rfl, rfl, SqL.of upd_same, rfl, ?_⟩
        refine ⟨_, _, rfl, rfl, ⟨by decide, by decide⟩, .inl ⟨_, rfl, _, rfl, _, _, rfl, rfl, (by show n ≠ 0; omega), ?_⟩⟩
        generalize (((m * 40692 + 211).fmod 2147483647).fdiv 131) = z
        have hm0 := Int.fmod_nonneg_of_pos z n0
        have hm1 := Int.fmod_lt_of_pos z n0
        have er : z.fmod n = ((z.fmod n).toNat : Int) := (Int.toNat_of_nonneg hm0).symm
        have qq : ∀ H', Rst t hh H H' → Tin H' t hh → Q (.int (z.fmod n)) H' := fun H' => by
          have z := q (z.fmod n).toNat H' (by rw [← er]; exact hm1)
          rw [← er] at z
          exact z
        refine qq _ (fun a o n1 n2 e => by rw [upd_ne n1]; exact r1 a o n1 n2 e) ⟨[], _, upd_same, ?_, ne, by decide, hb, k0, by omega⟩
        rw [upd_ne ne.symm]
        exact hc
end
end K2
namespace K2
open PySem PyProof.Rows L2 HD
theorem Tin.ne {H : Hp} {t h a : Addr} (T : Tin H t h) (n : H a = none) : a ≠ t ∧ a ≠ h := by
  obtain ⟨cs, m, h1, h2, _⟩ := T
  refine ⟨fun e => ?_, fun e => ?_⟩
  · rw [e, h1] at n
    cases n
  · rw [e, h2] at n
    cases n
theorem seq_nat {r n : Nat} (h : r < n) : seqIndex? (r : Int) n = some r := (ixN_seq (n := n) (j := r) (by
  unfold ixN
  rw [if_pos (by omega), if_pos (by omega)]
  simp)).1
theorem perm_erase {α : Type} : ∀ {l : List α} {r : Nat} (h : r < l.length), (l[r] :: l.eraseIdx r).Perm l
  | x :: xs, 0, _ => .refl _
  | x :: xs, r + 1, h => (List.Perm.swap x _ _).trans ((perm_erase (l := xs) (r := r) (by simpa using h)).cons x)
section
variable {P : Program} {w : World} {K : PySem.W.Frag} {mg : Str → Option Value} {base : Heap}
def spStrewn (K : PySem.W.Frag) : Sp := fun vs H Q _ => ∃ (t h a : Addr) (xs : List V), vs = [.ref t, .ref a] ∧ Tin H t h ∧ SqL K H a xs ∧ xs.length ≤ 1000 ∧ ∀ (p : Addr) H' (zs : List V), zs.Perm xs → Rst t h H H' → Tin H' t h → H p = none → H' p = some (.lst zs) → Q (.ref p) H'
theorem ok_law_strewn (T : Txt K mg) : FnOk P w K mg base CX0 2 T.d_law_strewn.f T.d_law_strewn.fd ["tin", "things"] (spStrewn K) := by
  refine T.d_law_strewn.F.ok sc_law_strewn (fun vs H Q E h => ?_) (fun cdv A outer s H vs Q E hr h => ?_)
  · obtain ⟨_, _, _, _, rfl, _⟩ := h
    rfl
  · obtain ⟨t, hh, a, xs, rfl, hT, hS, hl, q⟩ := h
    refine ⟨_, (pss_cons (ps_set (i := 2) sc_law_strewn.nd rfl (Or.inl rfl) (pe_callTy call_list_of (by rfl) T.n_list (by decide +kernel) (pa_cons (pv 1) pa_nil)))
  (pss_cons (ps_set (i := 3) sc_law_strewn.nd rfl (Or.inl rfl) (pe_lst pa_nil))
  (pss_cons (ps_while PassesOwn.never (pt_cmpR op_gt (pe_callB call_len (by rfl) T.n_len (by decide +kernel) (pa_cons (pv 2) pa_nil)) pe_int (nomark _))
    (pss_one (ps_expr (pe_bm PySem.F.plainAttrs_list PySem.F.slot_list_append PySem.F.type_list_append mt_append (pv 3) (pa_cons (pe_bm PySem.F.plainAttrs_list PySem.F.slot_list_pop PySem.F.type_list_pop mt_popAt (pv 2) (pa_cons (pe_call (ok_law_spill T) (hr.mono (by decide)) (by rfl) T.d_law_spill.m T.d_law_spill.F.kp T.d_law_spill.b .nil pass0 (pa_cons (pv 0) (pa_cons (pe_callB call_len (by rfl) T.n_len (by decide +kernel) (pa_cons (pv 2) pa_nil)) pa_nil))) pa_nil)) pa_nil)))))
  (pss_one (ps_ret (pv 3)))))), ?_⟩
    refine ⟨_, rfl, ?_⟩
    refine ⟨a, xs, rfl, .inl hS, fun l hl0 => ?_⟩
    have s1 : Same H (upd H l (.lst xs)) := same_new hl0
    refine ⟨(by show 0 ≤ sizeLine; decide), fun o ho1 => ?_⟩
    have nlo : l ≠ o := ne_of_none upd_same ho1
    have ho0 : H o = none := by rw [upd_ne nlo.symm] at ho1; exact ho1
    have nl := hT.ne hl0
    have no := hT.ne ho0
    refine while_in (fun σ H' => σ = [some (.ref t), some (.ref a), some (.ref l), some (.ref o)] ∧ Rst t hh H H' ∧ Tin H' t hh ∧ ∃ ls os : List V, H' l = some (.lst ls) ∧ H' o = some (.lst os) ∧ (os ++ ls).Perm xs) (fun _ H' => match H' l with | some (.lst xs) => xs.length | _ => 0) ?_ ?_
    · refine ⟨rfl, Rst.of (s1.trans (same_new ho1)), (hT.same s1).same (same_new ho1), xs, [], ?_, upd_same, ?_⟩
      · rw [upd_ne nlo, upd_same]
      · rw [List.nil_append]
    · rintro σ H1 ⟨rfl, r1, T1, ls, os, hL, hO, hp⟩
      refine ⟨_, rfl, _, _, rfl, .inl ⟨_, SqL.of hL, rfl⟩, _, _, rfl, rfl, _, rfl, ?_⟩
      refine ite2 (fun h => ?_) (fun h => ?_)
      · have hpos : 0 < ls.length := by
          have := of_decide_eq_true h
          omega
        have hlen := hp.length_eq
        rw [List.length_append] at hlen
        refine ⟨fun σ' H' => (match H' l with | some (.lst xs) => xs.length | _ => 0) < ls.length ∧ σ' = [some (.ref t), some (.ref a), some (.ref l), some (.ref o)] ∧ Rst t hh H H' ∧ Tin H' t hh ∧ ∃ ls os : List V, H' l = some (.lst ls) ∧ H' o = some (.lst os) ∧ (os ++ ls).Perm xs, fun σ' H' z => ⟨_, by rw [hL]; exact z.1, rfl, z.2⟩, ?_⟩
        refine ⟨_, rfl, .inl ⟨rfl, _, SqL.of hO⟩, ?_⟩
        refine ⟨_, rfl, .inl ⟨rfl, _, SqL.of hL⟩, ?_⟩
        refine ⟨_, rfl, _, rfl, _, _, rfl, .inl ⟨_, SqL.of hL, rfl⟩, ?_⟩
        refine ⟨t, hh, (ls.length : Int), rfl, by omega, by omega, T1, fun r H2 hr2 r2 T2 => ?_⟩
        have hrl : r < ls.length := by omega
        have hL2 := r2 l _ nl.1 nl.2 hL
        have hO2 := r2 o _ no.1 no.2 hO
        refine ⟨l, ls, (r : Int), r, ls[r], rfl, rfl, hL2, by omega, by omega, seq_nat hrl, List.getElem?_eq_getElem hrl, ?_⟩
        refine ⟨o, os, _, rfl, rfl, by rw [upd_ne nlo.symm]; exact hO2, Nat.lt_of_le_of_lt (by omega : os.length ≤ 1000) (by decide), ?_⟩
        refine ⟨?_, rfl, ((r1.trans r2).put hl0).put ho0, (T2.put nl.1.symm nl.2.symm).put no.1.symm no.2.symm, ls.eraseIdx r, os ++ [ls[r]], ?_, upd_same, ?_⟩
        · rw [upd_ne nlo, upd_same]
          show (ls.eraseIdx r).length < ls.length
          rw [List.length_eraseIdx_of_lt hrl]
          omega
        · rw [upd_ne nlo, upd_same]
        · refine List.Perm.trans ?_ hp
          rw [List.append_assoc]
          refine List.Perm.append_left os ?_
          exact perm_erase hrl
      · have hls : ls = [] := by
          cases ls with
          | nil => rfl
          | cons x y => exact absurd (show decide ((0 : Int) < (((x :: y).length : Nat) : Int)) = true from decide_eq_true (by rw [List.length_cons]; omega)) h
        subst hls
        rw [List.append_nil] at hp
        exact ⟨_, rfl, q o H1 os hp r1 T1 ho0 hO⟩
end
end K2
namespace K2
open PySem PyProof.Rows L2 HD
theorem nodup_map_on {α β : Type} {f : α → β} : ∀ {l : List α}, (∀ x ∈ l, ∀ y ∈ l, f x = f y → x = y) → l.Nodup → (l.map f).Nodup
  | [], _, _ => List.nodup_nil
  | x :: xs, h, nd => by
    have nd' := List.nodup_cons.mp nd
    refine List.nodup_cons.mpr ⟨fun z => ?_, nodup_map_on (fun a ha b hb => h a (List.mem_cons_of_mem _ ha) b (List.mem_cons_of_mem _ hb)) nd'.2⟩
    obtain ⟨y, hy, e⟩ := List.mem_map.mp z
    have e2 := h y (List.mem_cons_of_mem _ hy) x (List.mem_cons_self ..) e
    exact nd'.1 (e2 ▸ hy)
/-- names that tell places apart -/
def NamesOk (ns : List Str) : Prop := ns.Nodup ∧ (⟨#[]⟩ : Str) ∉ ns ∧ ∀ x ∈ ns, x.length ≤ 20 ∧ PyData.strOk x = true
theorem NamesOk.perm {a b : List Str} (p : a.Perm b) (h : NamesOk b) : NamesOk a := ⟨p.nodup_iff.mpr h.1, fun z => h.2.1 (p.mem_iff.mp z), fun x z => h.2.2 x (p.mem_iff.mp z)⟩
theorem NamesOk.sub {a b : List Str} (p : List.Sublist a b) (h : NamesOk b) : NamesOk a := ⟨h.1.sublist p, fun z => h.2.1 (p.mem z), fun x z => h.2.2 x (p.mem z)⟩
theorem perm_map_str {zs : List V} {ns : List Str} (p : zs.Perm (ns.map V.str)) : ∃ ms : List Str, zs = ms.map V.str ∧ ms.Perm ns := by
  refine ⟨zs.map fun v => match v with | .str x => x | _ => ⟨#[]⟩, ?_, ?_⟩
  · rw [List.map_map]
    refine (List.map_id zs).symm.trans (List.map_congr_left fun v hv => ?_)
    obtain ⟨x, _, rfl⟩ := List.mem_map.mp (p.mem_iff.mp hv)
    rfl
  · have q := p.map (fun v => match v with | .str x => x | _ => (⟨#[]⟩ : Str))
    rw [List.map_map] at q
    have e : (ns.map ((fun v => match v with | V.str x => x | _ => (⟨#[]⟩ : Str)) ∘ V.str)) = ns := (List.map_congr_left fun x _ => rfl).trans (List.map_id ns)
    rw [e] at q
    exact q
def alphabet : Str := "ghijkmnpqruvwyzaf"
theorem names_signs : NamesOk (signsV alphabet) := ⟨by decide +kernel, by decide +kernel, by decide +kernel⟩
/-- the first n + 1 signs -/
def pre (z : Str) (n : Nat) : Str := ⟨(z.cps.toList.take (n + 1)).toArray⟩
theorem pre_size {z : Str} {i : Nat} (h : i < z.length) : (pre z i).cps.size = i + 1 := by
  have hz : z.cps.toList.length = z.length := Array.length_toList
  unfold pre
  rw [List.size_toArray, List.length_take]
  omega
theorem names_pre {z : Str} {n : Nat} (h : n ≤ z.length) (h9 : n ≤ 20) (hz : PyData.strOk z = true) : NamesOk ((List.range n).map (pre z)) := by
  refine ⟨nodup_map_on (fun i hi j hj e => ?_) List.nodup_range, fun e => ?_, fun x hx => ?_⟩
  · have e2 := congrArg (fun x : Str => x.cps.size) e
    have hi' := List.mem_range.mp hi
    have hj' := List.mem_range.mp hj
    rw [pre_size (by omega), pre_size (by omega)] at e2
    omega
  · obtain ⟨i, hi, e⟩ := List.mem_map.mp e
    have e2 := congrArg (fun x : Str => x.cps.size) e
    have hi' := List.mem_range.mp hi
    dsimp only at e2
    rw [pre_size (by omega)] at e2
    cases e2
  · obtain ⟨i, hi, rfl⟩ := List.mem_map.mp hx
    have hi' := List.mem_range.mp hi
    refine ⟨?_, ?_⟩
    · show (pre z i).cps.size ≤ 20
      rw [pre_size (by omega)]
      omega
    · unfold PyData.strOk at hz ⊢
      rw [← Array.all_toList] at hz ⊢
      rw [List.all_eq_true] at hz ⊢
      intro c hc
      refine hz c ?_
      unfold pre at hc
      rw [List.toList_toArray] at hc
      exact List.mem_of_mem_take hc
/-- the number in a name -/
def numIn (l : List Nat) : Nat := (l.takeWhile fun c => 48 ≤ c && c ≤ 57).foldl (fun n c => 10 * n + (c - 48)) 0
def tails : List Str := ["", "z", "qu", "kkkkk", ""]
def nameOf (c n : Nat) (tl : Str) : Str := (⟨#[c]⟩ : Str) ++ ((toString (n : Int) : String) : Str) ++ tl
theorem numIn_name : ∀ n : Nat, n < 100 → ∀ tl ∈ tails, numIn (((toString (n : Int) : String) : Str).cps.toList ++ tl.cps.toList) = n := by decide +kernel
theorem nameOf_num {c n : Nat} {tl : Str} (hn : n < 100) (ht : tl ∈ tails) : numIn (nameOf c n tl).cps.toList.tail = n := by
  have e : (nameOf c n tl).cps.toList = c :: (((toString (n : Int) : String) : Str).cps.toList ++ tl.cps.toList) := by
    show ((#[c] ++ ((toString (n : Int) : String) : Str).cps) ++ tl.cps).toList = _
    simp
  rw [e]
  exact numIn_name n hn tl ht
theorem ok_one {c : Nat} (h : c < 1000) : PyData.strOk (⟨#[c]⟩ : Str) = true := by
  have h2 : c < 1114112 := by omega
  simp [PyData.strOk, h2]
theorem ok_app (a b : Str) : PyData.strOk (a ++ b) = (PyData.strOk a && PyData.strOk b) := by
  show ((a.cps ++ b.cps).all _) = _
  rw [Array.all_append]
  rfl
theorem ok_num : ∀ n : Nat, n < 100 → PyData.strOk (((toString (n : Int) : String) : Str)) = true := by decide +kernel
theorem ok_tail : ∀ tl ∈ tails, PyData.strOk tl = true := by decide +kernel
theorem ok_sign : ∀ c ∈ alphabet.cps.toList, c < 1000 := by decide +kernel
theorem len_num : ∀ n : Nat, n < 100 → (((toString (n : Int) : String) : Str)).length ≤ 3 := by decide +kernel
theorem len_tail : ∀ tl ∈ tails, tl.length ≤ 5 := by decide +kernel
theorem len_app (a b : Str) : (a ++ b).length = a.length + b.length := by
  show (a.cps ++ b.cps).size = _
  rw [Array.size_append]
  rfl
theorem names_num {ns : List Str} {first : Nat} (h : first + ns.length ≤ 100) (hs : ∀ i x, ns[i]? = some x → ∃ c tl, tl ∈ tails ∧ c < 1000 ∧ x = nameOf c (first + i) tl) : NamesOk ns := by
  refine ⟨List.pairwise_iff_getElem.mpr fun i j hi hj hij e3 => ?_, fun z => ?_, fun x hx => ?_⟩
  · obtain ⟨c, tl, ht, _, e1⟩ := hs i _ (List.getElem?_eq_getElem hi)
    obtain ⟨c', tl', ht', _, e2⟩ := hs j _ (List.getElem?_eq_getElem hj)
    rw [e1, e2] at e3
    have n1 := nameOf_num (c := c) (n := first + i) (tl := tl) (by omega) ht
    have n2 := nameOf_num (c := c') (n := first + j) (tl := tl') (by omega) ht'
    rw [e3, n2] at n1
    omega
  · obtain ⟨i, hi⟩ := List.mem_iff_getElem?.mp z
    obtain ⟨c, tl, _, _, e⟩ := hs i _ hi
    have e2 := congrArg (fun x : Str => x.cps.size) e
    have e3 : (nameOf c (first + i) tl).cps.size = 1 + ((toString ((first + i : Nat) : Int) : String) : Str).cps.size + tl.cps.size := by
      show ((#[c] ++ _) ++ _).size = _
      rw [Array.size_append, Array.size_append]
      rfl
    rw [e3] at e2
    have : (0 : Nat) = 1 + ((toString ((first + i : Nat) : Int) : String) : Str).cps.size + tl.cps.size := e2
    omega
  · obtain ⟨i, hi⟩ := List.mem_iff_getElem?.mp hx
    obtain ⟨c, tl, ht, hc, rfl⟩ := hs i _ hi
    have hlt := (List.getElem?_eq_some_iff.mp hi).1
    have z := len_num (first + i) (by omega)
    have y := len_tail tl ht
    unfold nameOf
    refine ⟨?_, ?_⟩
    · rw [len_app, len_app]
      have one : (⟨#[c]⟩ : Str).length = 1 := rfl
      omega
    · rw [ok_app, ok_app, ok_num (first + i) (by omega), ok_tail tl ht]
      have hc2 : c < 1114112 := by omega
      simp [PyData.strOk, hc2]
end K2
namespace K2
open PySem PyProof.Rows L2 HD
theorem Rst.none {t h a : Addr} {H H' : Hp} (r : Rst t h H H') (T : Tin H' t h) (n : H' a = none) : H a = none := by
  have ne := T.ne n
  cases e : H a with
  | none => rfl
  | some o =>
    rw [r a o ne.1 ne.2 e] at n
    cases n
theorem cut_pre (xs : List V) (k : Nat) : cutV xs none (some (k : Int)) = xs.take k := by
  unfold cutV
  rw [HT.sIx_none, HT.sIx_nat, List.drop_zero, Nat.sub_zero]
  exact (List.take_eq_take_iff.mpr (by omega))
theorem cutS_pre (z : Str) (i : Nat) (h : i < z.length) : cutS z none (some (0 + (i : Int) + 1)) = pre z i := by
  have e : (0 + (i : Int) + 1) = ((i + 1 : Nat) : Int) := by omega
  have hz : z.cps.toList.length = z.length := Array.length_toList
  unfold cutS pre
  rw [e, HT.sIx_none, HT.sIx_nat, List.drop_zero, Nat.sub_zero, Nat.min_eq_left (by omega)]
section
variable {P : Program} {w : World} {K : PySem.W.Frag} {mg : Str → Option Value} {base : Heap}
def spNames : Sp := fun vs H Q _ => ∃ (t h : Addr) (n : Nat), vs = [.ref t, .int n] ∧ n ≤ 40 ∧ Tin H t h ∧ ∀ (p : Addr) H' (ns : List Str), ns.length = n → NamesOk ns → Rst t h H H' → Tin H' t h → H p = none → H' p = some (.lst (ns.map V.str)) → Q (.ref p) H'
theorem ok_law_names (T : Txt K mg) : FnOk P w K mg base CX0 3 T.d_law_names.f T.d_law_names.fd ["tin", "many"] spNames := by
  refine T.d_law_names.F.ok sc_law_names (fun vs H Q E h => ?_) (fun cdv A outer s H vs Q E hr h => ?_)
  · obtain ⟨_, _, _, rfl, _⟩ := h
    rfl
  · obtain ⟨t, hh, n, rfl, hn, hT, q⟩ := h
    refine ⟨_, (pss_cons (ps_set (i := 2) sc_law_names.nd rfl (Or.inl rfl) (pe_call (ok_law_spill T) (hr.mono (by decide)) (by rfl) T.d_law_spill.m T.d_law_spill.F.kp T.d_law_spill.b .nil pass0 (pa_cons (pv 0) (pa_cons pe_int pa_nil))))
  (pss_cons (ps_set (i := 3) sc_law_names.nd rfl (Or.inl rfl) pe_str)
  (pss_cons (ps_if (pt_mid (PW.pt (pw_and (pt_cmpR op_eq (pv 2) pe_int (nomark _)) (pw_and1 (pt_cmpR op_lt (pv 1) pe_int (nomark _))))))
    (pss_one (ps_ret (pe_slice sl_list (pe_call (ok_law_strewn T) (hr.mono (by decide)) (by rfl) T.d_law_strewn.m T.d_law_strewn.F.kp T.d_law_strewn.b .nil pass0 (pa_cons (pv 0) (pa_cons (pe_slice sl_list (pe_callTy (call_list_signs rfl) (by rfl) T.n_list (by decide +kernel) (pa_cons (pv 3) pa_nil)) po_none (po_some (pe_op op_add (pv 1) pe_int))) pa_nil))) po_none (po_some (pv 1)))))
    pss_nil)
  (pss_cons (ps_if (pt_mid (PW.pt (pw_and (pt_cmpR op_eq (pv 2) pe_int (nomark _)) (pw_and1 (pt_cmpR op_lt (pv 1) pe_int (nomark _))))))
    (pss_cons (ps_set (i := 4) sc_law_names.nd rfl (Or.inr rfl) (pe_op op_add_str (pe_ix ix_str (pv 3) (pe_call (ok_law_spill T) (hr.mono (by decide)) (by rfl) T.d_law_spill.m T.d_law_spill.F.kp T.d_law_spill.b .nil pass0 (pa_cons (pv 0) (pa_cons pe_int pa_nil))) (fun _ _ => rfl)) pe_str))
  (pss_one (ps_ret (pe_call (ok_law_strewn T) (hr.mono (by decide)) (by rfl) T.d_law_strewn.m T.d_law_strewn.F.kp T.d_law_strewn.b .nil pass0 (pa_cons (pv 0) (pa_cons (pe_lc (g := (gName 5)) (tt := _) (te := (tSl rSlS (tVar 4) tNoPart (tPart (tOp (rI0 fun i j => .int (i + j)) (tVar 5) (tC (.int 1)))))) (own := [("at", 5)]) rfl sc_law_names.nd (pi_range1 (by rfl) T.n_range (pa_cons (pv 1) pa_nil)) (blkOk_by (own := [("at", 5)]) (N := ["tin", "many", "way", "signs", "word", "at", "first", "names", "tail"]) (sc := defScope s_law_names) (by decide +kernel)) (fun _ _ _ _ _ => by refine (pg_name (i := 5) ?_ ?_ ?_); (exact sc_law_names.nd); (exact rfl); (exact (Or.inl rfl))) (fun _ _ _ _ _ => by exact pts_nil) (fun _ _ _ _ _ => by refine (pe_slice sl_str ?_ po_none ?_); (exact (pv 4)); (refine (po_some ?_); (refine (pe_op op_add ?_ pe_int); (exact (pv 5)))))) pa_nil))))))
    pss_nil)
  (pss_cons (ps_set (i := 6) sc_law_names.nd rfl (Or.inl rfl) (pe_call (ok_law_spill T) (hr.mono (by decide)) (by rfl) T.d_law_spill.m T.d_law_spill.F.kp T.d_law_spill.b .nil pass0 (pa_cons (pv 0) (pa_cons pe_int pa_nil))))
  (pss_cons (ps_set (i := 7) sc_law_names.nd rfl (Or.inl rfl) (pe_lst pa_nil))
  (pss_cons (ps_for PassesOwn.never rfl (pi_range1 (by rfl) T.n_range (pa_cons (pv 1) pa_nil)) (pg_name (i := 5) sc_law_names.nd rfl (Or.inl rfl))
    (pss_cons (ps_set (i := 8) sc_law_names.nd rfl (Or.inl rfl) (pe_ix ix_list (pe_lst (pa_cons pe_str (pa_cons pe_str (pa_cons pe_str (pa_cons pe_str (pa_cons pe_str pa_nil)))))) (pe_call (ok_law_spill T) (hr.mono (by decide)) (by rfl) T.d_law_spill.m T.d_law_spill.F.kp T.d_law_spill.b .nil pass0 (pa_cons (pv 0) (pa_cons pe_int pa_nil))) (fun _ _ => rfl)))
  (pss_one (ps_expr (pe_bm PySem.F.plainAttrs_list PySem.F.slot_list_append PySem.F.type_list_append mt_append (pv 7) (pa_cons (pe_op op_add_str (pe_op op_add_str (pe_ix ix_str (pv 3) (pe_call (ok_law_spill T) (hr.mono (by decide)) (by rfl) T.d_law_spill.m T.d_law_spill.F.kp T.d_law_spill.b .nil pass0 (pa_cons (pv 0) (pa_cons pe_int pa_nil))) (fun _ _ => rfl)) (pe_callTy call_str_int (by rfl) T.n_str (by decide +kernel) (pa_cons (pe_op op_add (pv 6) (pv 5)) pa_nil))) (pv 8)) pa_nil))))))
  (pss_one (ps_ret (pe_call (ok_law_strewn T) (hr.mono (by decide)) (by rfl) T.d_law_strewn.m T.d_law_strewn.F.kp T.d_law_strewn.b .nil pass0 (pa_cons (pv 0) (pa_cons (pv 7) pa_nil)))))))))))), ?_⟩
    refine ⟨_, rfl, t, hh, 4, rfl, by decide, by decide, hT, fun way H1 hw r1 T1 => ?_⟩
    refine ⟨fun b H2 => H2 = H1 ∧ (b = true → n < 16), ?_, ?_⟩
    · refine ⟨_, rfl, rfl, _, rfl, ?_⟩
      refine ite2 (fun _ => ?_) (fun _ => ⟨rfl, fun z => nomatch z⟩)
      refine ⟨_, rfl, _, _, rfl, rfl, _, rfl, rfl, fun z => ?_⟩
      have := of_decide_eq_true z
      omega
    rintro b H2 ⟨rfl, hb⟩
    refine ite2 (fun hbt => ?_) (fun _ => ?_)
    · have hn16 := hb hbt
      refine ⟨_, rfl, _, rfl, alphabet, rfl, (by decide +kernel), fun l hl => ?_⟩
      have n1 := T1.ne hl
      have T2 := T1.put (o := .lst ((signsV alphabet).map V.str)) n1.1.symm n1.2.symm
      refine ⟨_, rfl, _, _, rfl, rfl, _, rfl, l, _, rfl, SqL.of upd_same, fun l2 hl2 => ?_⟩
      have n2 := T2.ne hl2
      have T3 := T2.put (o := .lst (cutV ((signsV alphabet).map V.str) none (some ((n : Int) + 1)))) n2.1.symm n2.2.symm
      have e1 : cutV ((signsV alphabet).map V.str) none (some ((n : Int) + 1)) = ((signsV alphabet).take (n + 1)).map V.str := by
        rw [show ((n : Int) + 1) = ((n + 1 : Nat) : Int) by omega, cut_pre, List.map_take]
      have l17 : (signsV alphabet).length = 17 := by decide +kernel
      refine ⟨t, hh, l2, ((signsV alphabet).take (n + 1)).map V.str, rfl, T3, SqL.of (by rw [upd_same, e1]), ?_, fun p H3 zs hp r3 T4 hp0 hp1 => ?_⟩
      · rw [List.length_map, List.length_take]
        omega
      obtain ⟨ms, rfl, hm⟩ := perm_map_str hp
      have hml := hm.length_eq
      rw [List.length_take, l17] at hml
      refine ⟨_, rfl, _, rfl, p, ms.map V.str, rfl, SqL.of hp1, fun l3 hl3 => ?_⟩
      have n3 := T4.ne hl3
      have r4 : Rst t hh H H3 := (r1.trans (Rst.of ((same_new hl).trans (same_new hl2)))).trans r3
      refine q l3 _ (ms.take n) ?_ ((names_signs.sub (List.take_sublist _ _)).perm hm |>.sub (List.take_sublist _ _)) (r4.put (r4.none T4 hl3)) (T4.put n3.1.symm n3.2.symm) (r4.none T4 hl3) ?_
      · rw [List.length_take]
        omega
      · rw [upd_same, cut_pre, List.map_take]
    refine ⟨fun b H3 => H3 = H2 ∧ (b = true → n < 9), ?_, ?_⟩
    · refine ⟨_, rfl, rfl, _, rfl, ?_⟩
      refine ite2 (fun _ => ?_) (fun _ => ⟨rfl, fun z => nomatch z⟩)
      refine ⟨_, rfl, _, _, rfl, rfl, _, rfl, rfl, fun z => ?_⟩
      have := of_decide_eq_true z
      omega
    rintro b2 H3 ⟨rfl, hb2⟩
    have l17 : alphabet.cps.toList.length = 17 := by decide +kernel
    refine ite2 (fun hbt => ?_) (fun _ => ?_)
    · have hn9 := hb2 hbt
      refine ⟨_, rfl, _, rfl, t, hh, 17, rfl, by decide, by decide, T1, fun r H4 hr4 r4 T4 => ?_⟩
      have hr17 : r < alphabet.cps.toList.length := by omega
      refine ⟨alphabet, _, alphabet.cps.toList[r], rfl, rfl, (by decide +kernel), atI_nat (List.getElem?_eq_getElem hr17), ?_⟩
      refine ⟨_, _, rfl, rfl, (by show 1 + 8 ≤ sizeLine; decide), ?_⟩
      have hwl : ((⟨#[alphabet.cps.toList[r]]⟩ : Str) ++ ("0z7kk2q9" : Str)).length = 9 := rfl
      refine ⟨_, rfl, ?_⟩
      refine ⟨_, rfl, _, rfl, by omega, by omega, fun D hD => lc_range (lo := 0) (n := (n : Int).toNat) (fun i H' => Same H4 H' ∧ H' D = some (.lst (((List.range i).map (pre ((⟨#[alphabet.cps.toList[r]]⟩ : Str) ++ ("0z7kk2q9" : Str)))).map V.str))) ?_ ?_ ?_⟩
      · exact ⟨same_new hD, upd_same⟩
      · rintro i H' hi ⟨s0, hDa⟩
        have hi' : i < n := by omega
        refine ⟨rfl, ?_⟩
        refine ⟨_, rfl, _, rfl, _, _, rfl, rfl, _, rfl, _, rfl, by rw [hwl]; decide, _, hDa, ?_, s0.put hD, ?_⟩
        · rw [List.length_map, List.length_map, List.length_range]
          exact Nat.lt_of_lt_of_le (by omega : i < 9) (by decide)
        · rw [upd_same, cutS_pre _ _ (by rw [hwl]; omega), List.range_succ, List.map_append, List.map_append]
          rfl
      · rintro H' ⟨s0, hDa⟩
        have nD := T4.ne hD
        rw [Int.toNat_natCast] at hDa
        refine ⟨t, hh, D, _, rfl, T4.same s0, SqL.of hDa, ?_, fun p H5 zs hp r5 T5 hp0 hp1 => ?_⟩
        · rw [List.length_map, List.length_map, List.length_range]
          omega
        obtain ⟨ms, rfl, hm⟩ := perm_map_str hp
        have hml := hm.length_eq
        rw [List.length_map, List.length_range] at hml
        have r6 : Rst t hh H H' := (r1.trans r4).trans (Rst.of s0)
        exact q p H5 ms hml ((names_pre (by rw [hwl]; omega) (by omega) (by
          have z := ok_sign _ (List.getElem_mem hr17)
          rw [ok_app]
          have e : PyData.strOk ("0z7kk2q9" : Str) = true := by decide +kernel
          rw [e, ok_one z]
          rfl)).perm hm) (r6.trans r5) T5 (r6.none (T4.same s0) hp0) hp1
    refine ⟨_, rfl, t, hh, 50, rfl, by decide, by decide, T1, fun first H4 hf4 r4 T4 => ?_⟩
    refine ⟨(by show 0 ≤ sizeLine; decide), fun D hD => ?_⟩
    have nD := T4.ne hD
    refine ⟨_, rfl, _, rfl, by omega, by omega, for_range (lo := 0) (n := (n : Int).toNat) (fun i σ H' => Rst t hh H4 H' ∧ Tin H' t hh ∧ (∃ u v : Option V, σ = [some (.ref t), some (.int n), some (.int way), some (.str alphabet), none, u, some (.int first), some (.ref D), v]) ∧ ∃ ns : List Str, ns.length = i ∧ H' D = some (.lst (ns.map V.str)) ∧ ∀ j x, ns[j]? = some x → ∃ c tl, tl ∈ tails ∧ c < 1000 ∧ x = nameOf c (first + j) tl) ?_ ?_ ?_⟩
    · exact ⟨Rst.of (same_new hD), T4.same (same_new hD), ⟨none, none, rfl⟩, [], rfl, upd_same, fun j x h => by simp at h⟩
    · rintro i σ H5 hi ⟨r5, T5, ⟨u, v, rfl⟩, ns, hl, hDa, hx⟩
      have hi' : i < n := by omega
      refine ⟨(by show 5 ≤ sizeLine; decide), fun L hL => ?_⟩
      refine ⟨_, rfl, t, hh, 5, rfl, by decide, by decide, T5.same (same_new hL), fun k H6 hk r6 T6 => ?_⟩
      have nL := T5.ne hL
      have hk5 : k < tails.length := by show k < 5; omega
      refine ⟨L, tails.map V.str, _, .str tails[k], rfl, rfl, SqL.of (r6 L _ nL.1 nL.2 upd_same), atI_nat (by rw [List.getElem?_map, List.getElem?_eq_getElem hk5]; rfl), ?_⟩
      have hD6 : H6 D = some (.lst (ns.map V.str)) := r6 D _ nD.1 nD.2 (by rw [upd_ne (ne_of_none hDa hL)]; exact hDa)
      refine ⟨_, rfl, .inl ⟨rfl, _, SqL.of hD6⟩, ?_⟩
      refine ⟨_, rfl, _, rfl, t, hh, 17, rfl, by decide, by decide, T6, fun c H7 hc r7 T7 => ?_⟩
      have hc17 : c < alphabet.cps.toList.length := by omega
      refine ⟨alphabet, _, alphabet.cps.toList[c], rfl, rfl, (by decide +kernel), atI_nat (List.getElem?_eq_getElem hc17), ?_⟩
      have e1 : ((first : Int) + (0 + (i : Int))) = ((first + i : Nat) : Int) := by omega
      have h100 : first + i < 100 := by omega
      refine ⟨_, rfl, _, rfl, _, _, rfl, rfl, _, rfl, ?_, ?_⟩
      · show Nat.log2 ((first : Int) + (0 + (i : Int))).natAbs < 1920
        exact Nat.lt_of_le_of_lt (Nat.log2_le_self _) (by omega)
      rw [e1]
      refine ⟨_, _, rfl, rfl, ?_, _, rfl, _, _, rfl, rfl, ?_, D, _, _, rfl, rfl, r7 D _ nD.1 nD.2 hD6, ?_, ((r5.trans ((Rst.of (same_new hL)).trans r6)).trans r7).put hD, T7.put nD.1.symm nD.2.symm, ⟨_, _, rfl⟩, ns ++ [nameOf alphabet.cps.toList[c] (first + i) tails[k]], ?_, ?_, ?_⟩
      · have z := len_num (first + i) h100
        exact Nat.le_trans (Nat.add_le_add_left z 1) (by decide)
      · have z := len_num (first + i) h100
        have y := len_tail _ (List.getElem_mem hk5)
        show (_ ++ _ : Str).length + _ ≤ _
        rw [len_app]
        exact Nat.le_trans (Nat.add_le_add (Nat.add_le_add_left z 1) y) (by decide)
      · rw [List.length_map, hl]
        exact Nat.lt_of_lt_of_le (by omega : i < 40) (by decide)
      · rw [List.length_append, hl]
        rfl
      · rw [upd_same, List.map_append]
        rfl
      · intro j x hj
        by_cases hji : j < ns.length
        · rw [List.getElem?_append_left hji] at hj
          exact hx j x hj
        · rw [List.getElem?_append_right (by omega)] at hj
          have hj0 : j = i := by
            have := (List.getElem?_eq_some_iff.mp hj).1
            rw [List.length_singleton] at this
            omega
          subst hj0
          rw [hl, Nat.sub_self] at hj
          exact ⟨_, tails[k], List.getElem_mem hk5, ok_sign _ (List.getElem_mem hc17), (Option.some.inj hj).symm⟩
    · rintro σ H5 ⟨r5, T5, ⟨u, v, rfl⟩, ns, hl, hDa, hx⟩
      rw [Int.toNat_natCast] at hl
      refine ⟨_, rfl, _, rfl, t, hh, D, _, rfl, T5, SqL.of hDa, by rw [List.length_map]; omega, fun p H6 zs hp r6 T6 hp0 hp1 => ?_⟩
      obtain ⟨ms, rfl, hm⟩ := perm_map_str hp
      have r7 : Rst t hh H H5 := (r1.trans r4).trans r5
      exact q p H6 ms (hm.length_eq.trans hl) ((names_num (first := first) (by omega) hx).perm hm) (r7.trans r6) T6 (r7.none T5 hp0) hp1
end
end K2
namespace K2
open PySem PyProof.Rows L2 HD
theorem sqT_ty {K : PySem.W.Frag} {H : Hp} {a : Addr} {xs : List V} (h : SqT K H a xs) : TyX K H (.ref a) (.type "tuple") := by
  rcases h with (h | ⟨o, h⟩) | ⟨o, its, n, h, c, _⟩
  · exact .base (.tup h)
  · exact .fTuple h
  · exact .kTuple h c
theorem depth_mem {d : PyData} : ∀ {ds : List PyData}, d ∈ ds → d.depth ≤ PyData.depthAll ds
  | e :: ds, h => by
    show d.depth ≤ max e.depth (PyData.depthAll ds)
    rcases List.mem_cons.mp h with rfl | h
    · exact Nat.le_max_left _ _
    · exact Nat.le_trans (depth_mem h) (Nat.le_max_right _ _)
mutual
/-- no tuple longer than a thousand -/
def small : PyData → Bool
  | .tuple ds => decide (ds.length ≤ 1000) && smallAll ds
  | _ => true
def smallAll : List PyData → Bool
  | [] => true
  | d :: ds => small d && smallAll ds
end
theorem smallAll_iff : ∀ {ds : List PyData}, smallAll ds = true ↔ ∀ d ∈ ds, small d = true
  | [] => by simp [smallAll]
  | d :: ds => by simp [smallAll, smallAll_iff (ds := ds)]
section
variable {P : Program} {w : World} {K : PySem.W.Frag} {mg : Str → Option Value} {base : Heap}
def spSame (K : PySem.W.Frag) (n : Nat) : Sp := fun vs H Q _ => ∃ (v u : V) (d : PyData), vs = [v, u] ∧ Td K H v d ∧ Td K H u d ∧ d.depth ≤ n ∧ small d = true ∧ ∀ H', Same H H' → Q (.bl true) H'
theorem step_same (T : Txt K mg) {k : Nat} (ih : FnOk P w K mg base CX0 k T.d_law_same.f T.d_law_same.fd ["told", "due"] (fun vs H Q E => ∃ n, n + 1 = k ∧ spSame K n vs H Q E)) : FnOk P w K mg base CX0 (k + 1) T.d_law_same.f T.d_law_same.fd ["told", "due"] (spSame K k) := by
  refine T.d_law_same.F.ok sc_law_same (fun vs H Q E h => ?_) (fun cdv A outer s H vs Q E hr h => ?_)
  · obtain ⟨_, _, _, rfl, _⟩ := h
    rfl
  · obtain ⟨v, u, d, rfl, hv, hu, hd, hsm, q⟩ := h
    refine ⟨_, (pss_cons (ps_if (pt_val (pe_callB call_isi (by rfl) T.n_isinstance (by decide +kernel) (pa_cons (pv 1) (pa_cons (pe_bltn (v := .ty "tuple") (by rfl) T.n_tuple (by decide +kernel) rfl) pa_nil))))
    (pss_cons (ps_if (PW.pt (pw_or (pt_not (pt_val (pe_callB call_isi (by rfl) T.n_isinstance (by decide +kernel) (pa_cons (pv 0) (pa_cons (pe_bltn (v := .ty "tuple") (by rfl) T.n_tuple (by decide +kernel) rfl) pa_nil))))) (pw_or1 (pt_cmpR op_ne (pe_callB call_len (by rfl) T.n_len (by decide +kernel) (pa_cons (pv 0) pa_nil)) (pe_callB call_len (by rfl) T.n_len (by decide +kernel) (pa_cons (pv 1) pa_nil)) (nomark _)))))
    (pss_one (ps_ret pe_bl))
    pss_nil)
  (pss_cons (ps_for PassesOwn.never rfl (pi_range1 (by rfl) T.n_range (pa_cons (pe_callB call_len (by rfl) T.n_len (by decide +kernel) (pa_cons (pv 1) pa_nil)) pa_nil)) (pg_name (i := 2) sc_law_same.nd rfl (Or.inl rfl))
    (pss_one (ps_if (pt_not (pt_val (pe_call ih hr (by rfl) T.d_law_same.m T.d_law_same.F.kp T.d_law_same.b .nil pass0 (pa_cons (pe_ix ix_tup (pv 0) (pv 2) (fun _ _ => rfl)) (pa_cons (pe_ix ix_tup (pv 1) (pv 2) (fun _ _ => rfl)) pa_nil)))))
    (pss_one (ps_ret pe_bl))
    pss_nil)))
  (pss_one (ps_ret pe_bl))))
    pss_nil)
  (pss_cons (ps_if (pt_cmpR op_isN (pv 1) pe_non (nomark _))
    (pss_one (ps_ret (pe_cmpR op_isN (pv 0) pe_non (nomark _))))
    pss_nil)
  (pss_cons (ps_if (pt_val (pe_callB call_isi (by rfl) T.n_isinstance (by decide +kernel) (pa_cons (pv 1) (pa_cons (pe_bltn (v := .ty "bool") (by rfl) T.n_bool (by decide +kernel) rfl) pa_nil))))
    (pss_one (ps_ret (pe_and (pe_callB call_isi (by rfl) T.n_isinstance (by decide +kernel) (pa_cons (pv 0) (pa_cons (pe_bltn (v := .ty "bool") (by rfl) T.n_bool (by decide +kernel) rfl) pa_nil))) (pe_one (pe_cmpR op_eq (pv 0) (pv 1) (nomark _))))))
    pss_nil)
  (pss_cons (ps_if (pt_val (pe_callB call_isi (by rfl) T.n_isinstance (by decide +kernel) (pa_cons (pv 1) (pa_cons (pe_bltn (v := .ty "int") (by rfl) T.n_int (by decide +kernel) rfl) pa_nil))))
    (pss_one (ps_ret (pe_and (pe_callB call_isi (by rfl) T.n_isinstance (by decide +kernel) (pa_cons (pv 0) (pa_cons (pe_bltn (v := .ty "int") (by rfl) T.n_int (by decide +kernel) rfl) pa_nil))) (pe_and (pe_not (pe_callB call_isi (by rfl) T.n_isinstance (by decide +kernel) (pa_cons (pv 0) (pa_cons (pe_bltn (v := .ty "bool") (by rfl) T.n_bool (by decide +kernel) rfl) pa_nil)))) (pe_one (pe_cmpR op_eq (pv 0) (pv 1) (nomark _)))))))
    pss_nil)
  (pss_one (ps_ret (pe_and (pe_callB call_isi (by rfl) T.n_isinstance (by decide +kernel) (pa_cons (pv 1) (pa_cons (pe_bltn (v := .ty "str") (by rfl) T.n_str (by decide +kernel) rfl) pa_nil))) (pe_and (pe_callB call_isi (by rfl) T.n_isinstance (by decide +kernel) (pa_cons (pv 0) (pa_cons (pe_bltn (v := .ty "str") (by rfl) T.n_str (by decide +kernel) rfl) pa_nil))) (pe_one (pe_cmpR op_eq (pv 0) (pv 1) (nomark _))))))))))), ?_⟩
    have q0 := q H (Same.refl H)
    cases hu with
    | non =>
      cases hv
      refine ⟨_, rfl, _, _, _, _, false, rfl, .ty _, .base .non, kit_ty (by decide +kernel), _, rfl, iteF ?_⟩
      exact ⟨_, rfl, rfl, _, rfl, iteT ⟨_, rfl, rfl, q0⟩⟩
    | bl b =>
      cases hv
      refine ⟨_, rfl, _, _, _, _, false, rfl, .ty _, .base (.bl b), kit_ty (by decide +kernel), _, rfl, iteF ?_⟩
      refine ⟨_, rfl, rfl, _, rfl, iteF ?_⟩
      refine ⟨_, rfl, _, _, _, _, true, rfl, .ty _, .base (.bl b), kit_ty (by decide +kernel), _, rfl, iteT ?_⟩
      refine ⟨_, rfl, _, _, _, _, true, rfl, .ty _, .base (.bl b), kit_ty (by decide +kernel), _, rfl, ?_⟩
      refine ⟨_, rfl, _, rfl, rfl, ?_⟩
      rw [decide_eq_true rfl]
      exact q0
    | int i =>
      cases hv
      refine ⟨_, rfl, _, _, _, _, false, rfl, .ty _, .base (.int i), kit_ty (by decide +kernel), _, rfl, iteF ?_⟩
      refine ⟨_, rfl, rfl, _, rfl, iteF ?_⟩
      refine ⟨_, rfl, _, _, _, _, false, rfl, .ty _, .base (.int i), kit_ty (by decide +kernel), _, rfl, iteF ?_⟩
      refine ⟨_, rfl, _, _, _, _, true, rfl, .ty _, .base (.int i), kit_ty (by decide +kernel), _, rfl, iteT ?_⟩
      refine ⟨_, rfl, _, _, _, _, true, rfl, .ty _, .base (.int i), kit_ty (by decide +kernel), _, rfl, ?_⟩
      refine ⟨_, rfl, _, _, _, _, false, rfl, .ty _, .base (.int i), kit_ty (by decide +kernel), _, rfl, _, rfl, ?_⟩
      refine ⟨_, rfl, _, rfl, rfl, ?_⟩
      rw [decide_eq_true rfl]
      exact q0
    | str x =>
      cases hv
      refine ⟨_, rfl, _, _, _, _, false, rfl, .ty _, .base (.str x), kit_ty (by decide +kernel), _, rfl, iteF ?_⟩
      refine ⟨_, rfl, rfl, _, rfl, iteF ?_⟩
      refine ⟨_, rfl, _, _, _, _, false, rfl, .ty _, .base (.str x), kit_ty (by decide +kernel), _, rfl, iteF ?_⟩
      refine ⟨_, rfl, _, _, _, _, false, rfl, .ty _, .base (.str x), kit_ty (by decide +kernel), _, rfl, iteF ?_⟩
      refine ⟨_, rfl, _, _, _, _, true, rfl, .ty _, .base (.str x), kit_ty (by decide +kernel), _, rfl, ?_⟩
      refine ⟨_, rfl, _, _, _, _, true, rfl, .ty _, .base (.str x), kit_ty (by decide +kernel), _, rfl, ?_⟩
      refine ⟨_, rfl, _, rfl, rfl, ?_⟩
      rw [decide_eq_true rfl]
      exact q0
    | @tup b ys ds hs ht =>
      obtain ⟨a, xs, rfl, hs', ht'⟩ := hv.tup_inv
      have ex := ht'.length
      have ey := ht.length
      refine ⟨_, rfl, _, _, _, _, true, rfl, .ty _, sqT_ty hs, kit_ty (by decide +kernel), _, rfl, iteT ?_⟩
      refine ⟨_, rfl, _, _, _, _, true, rfl, .ty _, sqT_ty hs', kit_ty (by decide +kernel), _, rfl, ?_⟩
      refine ⟨_, rfl, _, _, rfl, .inr ⟨_, hs', rfl⟩, _, rfl, _, _, rfl, .inr ⟨_, hs, rfl⟩, rfl, _, rfl, ?_⟩
      have hsz : ds.length ≤ 1000 ∧ smallAll ds = true := by
        unfold small at hsm
        rw [Bool.and_eq_true] at hsm
        exact ⟨of_decide_eq_true hsm.1, hsm.2⟩
      have e : xs.length = ys.length := by rw [ex, ey]
      rw [e, decide_eq_true rfl]
      refine iteF ?_
      refine ⟨_, rfl, _, _, rfl, .inr ⟨_, hs, rfl⟩, _, rfl, by omega, by omega, for_range (lo := 0) (n := (ys.length : Int).toNat) (fun i σ H' => Same H H' ∧ ∃ x, σ = [some (.ref a), some (.ref b), x]) ⟨Same.refl H, _, rfl⟩ ?_ ?_⟩
      · rintro i σ H1 hi ⟨s1, x, rfl⟩
        have hi' : i < ds.length := by omega
        obtain ⟨v1, hv1, td1⟩ := ht'.get2 (List.getElem?_eq_getElem hi')
        obtain ⟨u1, hu1, td2⟩ := ht.get2 (List.getElem?_eq_getElem hi')
        have ei : (0 : Int) + (i : Int) = (i : Int) := by omega
        obtain ⟨m, hm⟩ : ∃ m, m + 1 = k := by
          have : PyData.depthAll ds + 1 ≤ k := hd
          exact ⟨k - 1, by omega⟩
        have hdm : (ds[i]).depth ≤ m := by
          have z := depth_mem (List.getElem_mem hi')
          have : PyData.depthAll ds + 1 ≤ k := hd
          omega
        refine ⟨_, rfl, _, rfl, a, xs, _, v1, rfl, rfl, (Tm.of s1).sqT hs', by rw [ei]; exact atI_nat hv1, ?_⟩
        refine ⟨_, rfl, _, rfl, b, ys, _, u1, rfl, rfl, (Tm.of s1).sqT hs, by rw [ei]; exact atI_nat hu1, ?_⟩
        refine ⟨m, hm, v1, u1, ds[i], rfl, td1.mono (Tm.of s1), td2.mono (Tm.of s1), hdm, smallAll_iff.mp hsz.2 _ (List.getElem_mem hi'), fun H2 s2 => ?_⟩
        exact ⟨_, rfl, iteF ⟨s1.trans s2, _, rfl⟩⟩
      · rintro σ H1 ⟨s1, x, rfl⟩
        exact q H1 s1
theorem ok_law_same (T : Txt K mg) : ∀ n : Nat, FnOk P w K mg base CX0 (n + 1) T.d_law_same.f T.d_law_same.fd ["told", "due"] (spSame K n) := by
  intro n
  induction n with
  | zero => exact step_same T ⟨fun vs H Q E h => by obtain ⟨n, e, _⟩ := h; omega, fun A outer s H args us vs Q E _ _ _ _ h => by obtain ⟨n, e, _⟩ := h; omega⟩
  | succ n ih =>
    exact step_same T ⟨fun vs H Q E h => by
      obtain ⟨m, e, h⟩ := h
      exact ih.len vs H Q E (by rw [show n = m by omega]; exact h), fun A outer s H args us vs Q E a b c d h => by
      obtain ⟨m, e, h⟩ := h
      exact ih.run A outer s H args us vs Q E a b c d (by rw [show n = m by omega]; exact h)⟩
end
end K2
namespace K2
open PySem PyProof.Rows L2 HD
theorem hot_of {c : Value} {d : Option Addr} {o : Obj} (h : L2N.Zn c d o) (hf : ∃ vs, o.data = .fields vs) : ∃ vs : Array Value, o.data = .fields vs ∧ vs[2]? = some .none := by
  obtain ⟨vs, e⟩ := hf
  exact ⟨vs, e, h.2.2 vs e⟩
section
variable {P : Program} {w : World} {K : PySem.W.Frag} {mg : Str → Option Value} {base : Heap}
def spIsStep (cS : Addr) (a : Addr) (c : Value) (d : Option Addr) (vs : List V) (H : Hp) (Q : VK) : Prop := ∃ (dd : Addr) (word : Str), vs = [.ref a, .str word] ∧ c = .ref cS ∧ d = some dd ∧ H dd = some (.xd [("word", .str word)]) ∧ ∀ H', Same H H' → Q (.bl true) H'
theorem ok_law_is_step (T : Txt K mg) : HX.FnP P w K mg base 1 T.d_law_is_step.f T.d_law_is_step.fd ["e", "word"] (spIsStep T.cS) := by
  refine HX.okP T.d_law_is_step.F sc_law_is_step (fun a c d vs H Q h => ?_) (fun cdv A outer s H vs Q p c d hot hz hr h => ?_)
  · obtain ⟨_, _, rfl, _⟩ := h
    rfl
  · obtain ⟨dd, word, rfl, rfl, rfl, hH, q⟩ := h
    have hc := hz.1
    have hd := hz.2
    have hv : ∃ vs, p.2.data = .fields vs := by
      obtain ⟨_, vs, e, _⟩ := hot
      exact ⟨vs, e⟩
    refine ⟨_, (pss_cons (ps_if (PW.pt (pw_or (pt_not (pt_val (pe_callB (HX.call_isP (p := p) (D := T.cS) (dd := dd) (fs := [("word", V.str word)]) T.xi (List.mem_singleton.mpr rfl) hc hd hv) (by rfl) T.n_isinstance (by decide +kernel) (pa_cons (pv 0) (pa_cons (pe_glob (v := .ref T.cS) (by rfl) T.g_BadStep rfl) pa_nil))))) (pw_or (pt_not (pt_val (pe_callB (HX.call_isP (p := p) (D := T.cS) (dd := dd) (fs := [("word", V.str word)]) T.xi (List.mem_singleton.mpr rfl) hc hd hv) (by rfl) T.n_isinstance (by decide +kernel) (pa_cons (pv 0) (pa_cons (pe_glob (v := .ref T.cC) (by rfl) T.g_CallError rfl) pa_nil))))) (pw_or1 (pt_val (pe_callB (HX.call_isPT (p := p) (D := T.cS) (dd := dd) (fs := [("word", V.str word)]) T.xi (List.mem_singleton.mpr rfl) hc hd hv) (by rfl) T.n_isinstance (by decide +kernel) (pa_cons (pv 0) (pa_cons (pe_tup (pa_cons (pe_glob (v := .ref T.cD) (by rfl) T.g_DataError rfl) (pa_cons (pe_glob (v := .ref T.cT) (by rfl) T.g_TextError rfl) (pa_cons (pe_glob (v := .ref T.cK) (by rfl) T.g_DeskError rfl) pa_nil)))) pa_nil))))))))
    (pss_one (ps_ret pe_bl))
    pss_nil)
  (pss_one (ps_ret (pe_and (pe_callB call_isi (by rfl) T.n_isinstance (by decide +kernel) (pa_cons (HX.pe_fldP (p := p) (D := T.cS) (dd := dd) (fs := [("word", V.str word)]) T.xi T.noW (List.mem_singleton.mpr rfl) hc hd hv (pv 0)) (pa_cons (pe_bltn (v := .ty "str") (by rfl) T.n_str (by decide +kernel) rfl) pa_nil))) (pe_one (pe_cmpR op_eq (HX.pe_fldP (p := p) (D := T.cS) (dd := dd) (fs := [("word", V.str word)]) T.xi T.noW (List.mem_singleton.mpr rfl) hc hd hv (pv 0)) (pv 1) (nomark _))))))), ?_⟩
    refine ⟨_, rfl, _, _, true, rfl, .own _, hH, T.kS, _, rfl, iteF ?_⟩
    refine ⟨_, rfl, _, _, true, rfl, .own _, hH, T.kC, _, rfl, iteF ?_⟩
    refine ⟨_, rfl, (by show 3 ≤ sizeLine; decide), fun t ht => ?_⟩
    have s1 : Same H (upd H t (.tup [.ref T.cD, .ref T.cT, .ref T.cK])) := same_new ht
    refine ⟨t, _, _, false, rfl, upd_same, .cons (.own _) (.cons (.own _) (.cons (.own _) .nil)), s1 _ _ hH, T.kT, _, rfl, iteF ?_⟩
    refine ⟨_, rfl, rfl, _, s1 _ _ hH, rfl, _, _, _, _, true, rfl, .ty _, .base (.str word), kit_ty (by decide +kernel), ?_⟩
    refine ⟨_, rfl, _, rfl, rfl, _, s1 _ _ hH, rfl, _, rfl, rfl, ?_⟩
    rw [decide_eq_true rfl]
    exact q _ s1
def Told (H : Hp) (Q : VK) : Prop := ∀ p H', Same H H' → H' p = some (.tup [.str "step", .bl true]) → Q (.ref p) H'
def spHeard (K : PySem.W.Frag) : Sp := fun vs H Q _ => ∃ (k : Int) (v : V) (M : List Pl) (ys : List Addr) (d : Str × Str) (a b : Str), vs = [.int k, v, .str a, .str b] ∧ Web K H v M ys d ∧
  ((k = 0 ∧ (∀ (j : Nat) (ws : List Str) (y : Addr), M[j]? = some (a, ws) → ys[j]? = some y → ∀ H', Same H H' → Q (.ref y) H') ∧ (a ∉ M.map (·.1) → Told H Q)) ∨
   (k = 1 ∧ (b ∈ waysOf M a → ∃ z, NextD M a b z ∧ ∀ p H', Same H H' → H p = none → H' p = some (.tup [.str b, .str z]) → Q (.ref p) H') ∧ (b ∉ waysOf M a → Told H Q)) ∨
   (k = 2 ∧ (b ∈ waysOf M a → ∃ z u, WaysAt M a b z u ∧ ∀ p H', Same H H' → H p = none → H' p = some (.tup [.str z, .str u]) → Q (.ref p) H') ∧ (b ∉ waysOf M a → Told H Q)))
theorem ok_law_heard (T : Txt K mg) : FnOk P w K mg base CX0 5 T.d_law_heard.f T.d_law_heard.fd ["which", "web", "a", "b"] (spHeard K) := by
  refine T.d_law_heard.F.ok sc_law_heard (fun vs H Q E h => ?_) (fun cdv A outer s H vs Q E hr h => ?_)
  · obtain ⟨_, _, _, _, _, _, _, rfl, _⟩ := h
    rfl
  · obtain ⟨k, v, M, ys, d, a, b, rfl, hw, hk⟩ := h
    refine ⟨_, (pss_one (L2N.ps_try_as (ts := (fun a cls d => tRet (tTup (tCons (tC (.str "step")) (tCons (fun σ H Q => (tCons (tVar 4) (tCons (tIf (tTest (tOp rEq (tVar 0) (tC (.int 0)))) (tC (.str "place")) (tC (.str "dart"))) tNil)) σ H fun vs H1 => spIsStep T.cS a cls d vs H1 Q) tNil))))) (i := 4) rfl rfl sc_law_heard.nd rfl rfl ⟨rfl, by decide, .inl T.g_BendError⟩ HX.takesN0 (fun W pn xe tk _ => (pss_cons (ps_if (pt_cmpR op_eq (pv 0) pe_int (nomark _))
    (pss_one (ps_ret (pe_callS (ok_neighbours_of T) (hr.mono (by decide)) (by rfl) T.d_neighbours_of.m T.d_neighbours_of.F.kp T.d_neighbours_of.b (fun σ => L2N.passAt tk σ) (pa_cons (pv 1) (pa_cons (pv 2) pa_nil)))))
    pss_nil)
  (pss_cons (ps_if (pt_cmpR op_eq (pv 0) pe_int (nomark _))
    (pss_one (ps_ret (pe_callS (ok_dart_behind T) (hr.mono (by decide)) (by rfl) T.d_dart_behind.m T.d_dart_behind.F.kp T.d_dart_behind.b (fun σ => L2N.passAt tk σ) (pa_cons (pv 1) (pa_cons (pv 2) (pa_cons (pv 3) pa_nil))))))
    pss_nil)
  (pss_one (ps_ret (pe_callS (ok_next_ways T) (hr.mono (by decide)) (by rfl) T.d_next_ways.m T.d_next_ways.F.kp T.d_next_ways.b (fun σ => L2N.passAt tk σ) (pa_cons (pv 1) (pa_cons (pv 2) (pa_cons (pv 3) pa_nil))))))))) (fun a oe cls d pn hz hf => by refine (pss_one ?_); (refine (ps_ret ?_); (refine (pe_tup ?_); (refine (pa_cons pe_str ?_); (refine (pa_cons (HX.pe_callP (p := (a, oe)) (c := cls) (d := d) (ok_law_is_step T) (HX.roomH_at (hr.mono (by decide)) _) ⟨rfl, hot_of hz hf⟩ hz.zc (List.mem_cons_self ..) (by rfl) T.d_law_is_step.m T.d_law_is_step.F.kp T.d_law_is_step.b (pa_cons (pv 4) (pa_cons (pe_ifExp (pt_cmpR op_eq (pv 0) pe_int (nomark _)) pe_str pe_str) pa_nil))) ?_); (exact pa_nil)))))))), ?_⟩
    rcases hk with ⟨rfl, q1, q2⟩ | ⟨rfl, q1, q2⟩ | ⟨rfl, q1, q2⟩
    · refine ⟨_, rfl, rfl, _, rfl, iteT ?_⟩
      refine ⟨_, rfl, _, rfl, v, M, ys, d, a, rfl, hw, q1, fun hno dd H1 s1 hx => ?_⟩
      refine ⟨true, T.exS, fun _ e he => ?_, fun z => nomatch z⟩
      refine ⟨_, rfl, _, rfl, rfl, _, rfl, iteT ?_⟩
      refine ⟨dd, "place", rfl, rfl, rfl, hx, fun H2 s2 => ⟨(by show 2 ≤ sizeLine; decide), fun t ht => ?_⟩⟩
      exact q2 hno t _ ((s1.trans s2).trans (same_new ht)) upd_same
    · refine ⟨_, rfl, rfl, _, rfl, iteF ?_⟩
      refine ⟨_, rfl, rfl, _, rfl, iteT ?_⟩
      refine ⟨_, rfl, _, rfl, _, rfl, v, M, ys, d, a, b, rfl, hw, q1, fun hno dd H1 s1 hx => ?_⟩
      refine ⟨true, T.exS, fun _ e he => ?_, fun z => nomatch z⟩
      refine ⟨_, rfl, _, rfl, rfl, _, rfl, iteF ?_⟩
      refine ⟨dd, "dart", rfl, rfl, rfl, hx, fun H2 s2 => ⟨(by show 2 ≤ sizeLine; decide), fun t ht => ?_⟩⟩
      exact q2 hno t _ ((s1.trans s2).trans (same_new ht)) upd_same
    · refine ⟨_, rfl, rfl, _, rfl, iteF ?_⟩
      refine ⟨_, rfl, rfl, _, rfl, iteF ?_⟩
      refine ⟨_, rfl, _, rfl, _, rfl, v, M, ys, d, a, b, rfl, hw, q1, fun hno dd H1 s1 hx => ?_⟩
      refine ⟨true, T.exS, fun _ e he => ?_, fun z => nomatch z⟩
      refine ⟨_, rfl, _, rfl, rfl, _, rfl, iteF ?_⟩
      refine ⟨dd, "dart", rfl, rfl, rfl, hx, fun H2 s2 => ⟨(by show 2 ≤ sizeLine; decide), fun t ht => ?_⟩⟩
      exact q2 hno t _ ((s1.trans s2).trans (same_new ht)) upd_same
def stepD : PyData := .tuple [.str "step", .bool true]
def spRefused (K : PySem.W.Frag) : Sp := fun vs H Q _ => ∃ (k : Int) (v : V) (M : List Pl) (ys : List Addr) (d : Str × Str) (a b : Str), vs = [.int k, v, .str a, .str b] ∧ Web K H v M ys d ∧
  ((k = 0 ∧ a ∉ M.map (·.1)) ∨ (k = 1 ∧ b ∉ waysOf M a) ∨ (k = 2 ∧ b ∉ waysOf M a)) ∧ ∀ H', Same H H' → Q (.bl true) H'
theorem ok_law_refused (T : Txt K mg) : FnOk P w K mg base CX0 6 T.d_law_refused.f T.d_law_refused.fd ["which", "web", "a", "b"] (spRefused K) := by
  refine T.d_law_refused.F.ok sc_law_refused (fun vs H Q E h => ?_) (fun cdv A outer s H vs Q E hr h => ?_)
  · obtain ⟨_, _, _, _, _, _, _, rfl, _⟩ := h
    rfl
  · obtain ⟨k, v, M, ys, d, a, b, rfl, hw, hk, q⟩ := h
    refine ⟨_, (pss_cons (ps_set (i := 4) sc_law_refused.nd rfl (Or.inl rfl) (pe_call (ok_law_heard T) (hr.mono (by decide)) (by rfl) T.d_law_heard.m T.d_law_heard.F.kp T.d_law_heard.b .nil pass0 (pa_cons (pv 0) (pa_cons (pv 1) (pa_cons (pv 2) (pa_cons (pv 3) pa_nil))))))
  (pss_one (ps_ret (pe_call (ok_law_same T 1) (hr.mono (by decide)) (by rfl) T.d_law_same.m T.d_law_same.F.kp T.d_law_same.b .nil pass0 (pa_cons (pv 4) (pa_cons (pe_tup (pa_cons pe_str (pa_cons pe_bl pa_nil))) pa_nil)))))), ?_⟩
    refine ⟨_, rfl, _, rfl, _, rfl, _, rfl, k, v, M, ys, d, a, b, rfl, hw, ?_⟩
    have fin : ∀ (p : Addr) (H1 : Hp), Same H H1 → H1 p = some (.tup [.str "step", .bl true]) → ∀ t, H1 t = none → spSame K 1 [.ref p, .ref t] (upd H1 t (.tup [.str "step", .bl true])) Q E := fun p H1 s1 hp t ht => by
      have s2 : Same H1 (upd H1 t (.tup [.str "step", .bl true])) := same_new ht
      refine ⟨_, _, stepD, rfl, .tup (SqT.of (s2 _ _ hp)) (.cons (.str _) (.cons (.bl _) .nil)), .tup (SqT.of upd_same) (.cons (.str _) (.cons (.bl _) .nil)), by decide, by decide, fun H' s3 => q H' ((s1.trans s2).trans s3)⟩
    rcases hk with ⟨rfl, hno⟩ | ⟨rfl, hno⟩ | ⟨rfl, hno⟩
    · exact .inl ⟨rfl, fun j ws y hj _ => absurd (List.mem_map.mpr ⟨_, List.mem_of_getElem? hj, rfl⟩) hno, fun _ p H1 s1 hp => ⟨_, rfl, (by show 2 ≤ sizeLine; decide), fun t ht => fin p H1 s1 hp t ht⟩⟩
    · exact .inr (.inl ⟨rfl, fun hin => absurd hin hno, fun _ p H1 s1 hp => ⟨_, rfl, (by show 2 ≤ sizeLine; decide), fun t ht => fin p H1 s1 hp t ht⟩⟩)
    · exact .inr (.inr ⟨rfl, fun hin => absurd hin hno, fun _ p H1 s1 hp => ⟨_, rfl, (by show 2 ≤ sizeLine; decide), fun t ht => fin p H1 s1 hp t ht⟩⟩)
end
end K2
namespace K2
open PySem PyProof.Rows L2 HD
/-- what the drawn maps keep -/
structure MapOk (M : List Pl) : Prop where
  nd : (M.map (·.1)).Nodup
  ne : (⟨#[]⟩ : Str) ∉ M.map (·.1)
  wnd : ∀ p ∈ M, p.2.Nodup
  wne : ∀ p ∈ M, p.2 ≠ []
  self : ∀ p ∈ M, p.1 ∉ p.2
  sym : ∀ p ∈ M, ∀ b ∈ p.2, ∃ q ∈ M, q.1 = b ∧ p.1 ∈ q.2
  len2 : 2 ≤ M.length
  len : M.length ≤ 40
  dlen : (darts M).length ≤ 1000
  nlen : ∀ p ∈ M, p.1.length ≤ 20
  sok : ∀ p ∈ M, PyData.strOk p.1 = true
theorem small_strs (ns : List Str) (h : ns.length ≤ 1000) : small (.tuple (ns.map .str)) = true := by
  unfold small
  rw [Bool.and_eq_true, List.length_map]
  refine ⟨decide_eq_true h, smallAll_iff.mpr fun d hd => ?_⟩
  obtain ⟨x, _, rfl⟩ := List.mem_map.mp hd
  rfl
theorem small_darts (ds : List (Str × Str)) (h : ds.length ≤ 1000) : small (.tuple (ds.map encD)) = true := by
  unfold small
  rw [Bool.and_eq_true, List.length_map]
  refine ⟨decide_eq_true h, smallAll_iff.mpr fun d hd => ?_⟩
  obtain ⟨x, _, rfl⟩ := List.mem_map.mp hd
  rfl
theorem depth_strs (ns : List Str) : (PyData.tuple (ns.map .str)).depth ≤ 2 := by
  show PyData.depthAll _ + 1 ≤ 2
  exact Nat.succ_le_succ (depthAll_le fun d hd => by
    obtain ⟨x, _, rfl⟩ := List.mem_map.mp hd
    exact Nat.zero_le _)
theorem depth_darts (ds : List (Str × Str)) : (PyData.tuple (ds.map encD)).depth ≤ 2 := by
  show PyData.depthAll _ + 1 ≤ 2
  exact Nat.succ_le_succ (depthAll_le fun d hd => by
    obtain ⟨x, _, rfl⟩ := List.mem_map.mp hd
    exact Nat.le_refl _)
theorem Td.strs {K : PySem.W.Frag} {H : Hp} {a : Addr} {ns : List Str} (h : SqT K H a (ns.map V.str)) : Td K H (.ref a) (.tuple (ns.map .str)) := .tup h (TdAll.strs ns)
theorem dart_mem {M : List Pl} {a b : Str} (h : (a, b) ∈ darts M) : ∃ p ∈ M, p.1 = a ∧ b ∈ p.2 := by
  unfold darts at h
  obtain ⟨p, hp, hd⟩ := List.mem_flatMap.mp h
  unfold dartsOf at hd
  obtain ⟨o, ho, e⟩ := List.mem_map.mp hd
  cases e
  exact ⟨p, hp, rfl, (sortS_perm p.2).mem_iff.mp ho⟩
theorem mem_darts {M : List Pl} {p : Pl} {b : Str} (hp : p ∈ M) (hb : b ∈ p.2) : (p.1, b) ∈ darts M := by
  unfold darts
  refine List.mem_flatMap.mpr ⟨p, hp, ?_⟩
  unfold dartsOf
  exact List.mem_map.mpr ⟨b, (sortS_perm p.2).mem_iff.mpr hb, rfl⟩
/-- where it stands first -/
theorem first_ix {α : Type} [DecidableEq α] {a : α} : ∀ {l : List α}, a ∈ l → ∃ i : Nat, l[i]? = some a ∧ ∀ m : Nat, m < i → l[m]? ≠ some a
  | x :: xs, h => by
    by_cases e : x = a
    · subst e
      exact ⟨0, rfl, fun m hm => absurd hm (Nat.not_lt_zero _)⟩
    · rcases List.mem_cons.mp h with rfl | h
      · exact absurd rfl e
      · obtain ⟨i, hi, hm⟩ := first_ix h
        refine ⟨i + 1, by simpa using hi, fun m hlt => ?_⟩
        cases m with
        | zero => exact fun z => e (Option.some.inj z)
        | succ m => exact fun z => hm m (by omega) (by simpa using z)
/-- a dart's far end, and where its near end stands there -/
theorem MapOk.dart {M : List Pl} (h : MapOk M) {a b : Str} (hd : (a, b) ∈ darts M) : ∃ (j i : Nat) (ws : List Str), M[j]? = some (b, ws) ∧ ws[i]? = some a ∧ (∀ m, m < i → ws[m]? ≠ some a) ∧ a ∈ waysOf M b ∧ b ∈ waysOf M a := by
  obtain ⟨p, hp, rfl, hb⟩ := dart_mem hd
  obtain ⟨q, hq, rfl, ha⟩ := h.sym p hp b hb
  obtain ⟨j, hj⟩ := List.mem_iff_getElem?.mp hq
  obtain ⟨k, hk⟩ := List.mem_iff_getElem?.mp hp
  obtain ⟨i, hi, hm⟩ := first_ix ha
  exact ⟨j, i, q.2, hj, hi, hm, by rw [ways_at h.nd hj]; exact ha, by rw [ways_at h.nd hk]; exact hb⟩
theorem depth_dart (d : Str × Str) : (encD d).depth ≤ 2 := by
  show 1 ≤ 2
  decide
theorem small_dart (d : Str × Str) : small (encD d) = true := rfl
section
variable {P : Program} {w : World} {K : PySem.W.Frag} {mg : Str → Option Value} {base : Heap}
def spAsked (K : PySem.W.Frag) : Sp := fun vs H Q _ => ∃ (v : V) (M : List Pl) (ys : List Addr) (d : Str × Str), vs = [v] ∧ Web K H v M ys d ∧ MapOk M ∧ ∀ H', Same H H' → Q (.bl true) H'
theorem ok_law_asked (T : Txt K mg) : FnOk P w K mg base CX0 6 T.d_law_asked.f T.d_law_asked.fd ["web"] (spAsked K) := by
  refine T.d_law_asked.F.ok sc_law_asked (fun vs H Q E h => ?_) (fun cdv A outer s H vs Q E hr h => ?_)
  · obtain ⟨_, _, _, _, rfl, _⟩ := h
    rfl
  · obtain ⟨v, M, ys, d, rfl, hW, hM, q⟩ := h
    refine ⟨_, (pss_cons (ps_set (i := 1) sc_law_asked.nd rfl (Or.inl rfl) (pe_ix ix_tup (pv 0) pe_int (fun _ _ => rfl)))
  (pss_cons (ps_set (i := 2) sc_law_asked.nd rfl (Or.inl rfl) (pe_callTy call_tuple_of (by rfl) T.n_tuple (by decide +kernel) (pa_cons (pe_lc (g := (gTup K 2 (gCons (gName 3) (gCons (gName 4) gNil)))) (tt := _) (te := (tVar 3)) (own := [("name", 3), ("ways", 4)]) rfl sc_law_asked.nd (pi_tup (pv 1)) (blkOk_by (own := [("name", 3), ("ways", 4)]) (N := ["web", "places", "names", "name", "ways", "darts", "other", "links", "dart", "table", "a", "b", "row", "at"]) (sc := defScope s_law_asked) (by decide +kernel)) (fun _ _ _ _ _ => by refine (pg_tup ?_ ?_); (exact rfl); (refine (pgs_cons ?_ ?_); (refine (pg_name (i := 3) ?_ ?_ ?_); (exact sc_law_asked.nd); (exact rfl); (exact (Or.inl rfl))); (refine (pgs_cons ?_ ?_); (refine (pg_name (i := 4) ?_ ?_ ?_); (exact sc_law_asked.nd); (exact rfl); (exact (Or.inl rfl))); (exact pgs_nil)))) (fun _ _ _ _ _ => by exact pts_nil) (fun _ _ _ _ _ => by exact (pv 3))) pa_nil)))
  (pss_cons (ps_set (i := 5) sc_law_asked.nd rfl (Or.inl rfl) (pe_lst pa_nil))
  (pss_cons (ps_mid (ps_for PassesOwn.never rfl (pi_tup (pv 1)) (pg_tup rfl (pgs_cons (pg_name (i := 3) sc_law_asked.nd rfl (Or.inr rfl)) (pgs_cons (pg_name (i := 4) sc_law_asked.nd rfl (Or.inl rfl)) pgs_nil)))
    (pss_one (ps_set (i := 5) sc_law_asked.nd rfl (Or.inl rfl) (pe_op op_cat (pv 5) (pe_lc (g := (gName 6)) (tt := _) (te := (tTup (tCons (tVar 3) (tCons (tVar 6) tNil)))) (own := [("other", 6)]) rfl sc_law_asked.nd (pi_list (pe_callB (cr_sortD hr.units) (by rfl) T.n_sorted (by decide +kernel) (pa_cons (pv 4) pa_nil))) (blkOk_by (own := [("other", 6)]) (N := ["web", "places", "names", "name", "ways", "darts", "other", "links", "dart", "table", "a", "b", "row", "at"]) (sc := defScope s_law_asked) (by decide +kernel)) (fun _ _ _ _ _ => by refine (pg_name (i := 6) ?_ ?_ ?_); (exact sc_law_asked.nd); (exact rfl); (exact (Or.inl rfl))) (fun _ _ _ _ _ => by exact pts_nil) (fun _ _ _ _ _ => by refine (pe_tup ?_); (refine (pa_cons ?_ ?_); (exact (pv 3)); (refine (pa_cons ?_ ?_); (exact (pv 6)); (exact pa_nil))))))))))
  (pss_cons (ps_set (i := 7) sc_law_asked.nd rfl (Or.inl rfl) (pe_callTy call_tuple_of (by rfl) T.n_tuple (by decide +kernel) (pa_cons (pe_lc (g := (gName 8)) (tt := (tTest (tOp rLtS (tOp (rIxT K) (tVar 8) (tC (.int 0))) (tOp (rIxT K) (tVar 8) (tC (.int 1)))))) (te := (tVar 8)) (own := [("dart", 8)]) rfl sc_law_asked.nd (pi_list (pv 5)) (blkOk_by (own := [("dart", 8)]) (N := ["web", "places", "names", "name", "ways", "darts", "other", "links", "dart", "table", "a", "b", "row", "at"]) (sc := defScope s_law_asked) (by decide +kernel)) (fun _ _ _ _ _ => by refine (pg_name (i := 8) ?_ ?_ ?_); (exact sc_law_asked.nd); (exact rfl); (exact (Or.inl rfl))) (fun _ _ _ _ _ => by refine (pts_one ?_); (refine (pt_cmpR op_lt_str ?_ ?_ (nomark _)); (refine (pe_ix ix_tup ?_ pe_int (fun _ _ => rfl)); (exact (pv 8))); (refine (pe_ix ix_tup ?_ pe_int (fun _ _ => rfl)); (exact (pv 8))))) (fun _ _ _ _ _ => by exact (pv 8))) pa_nil)))
  (pss_cons (ps_mid (ps_if (PW.pt (pw_or (pt_not (pt_val (pe_call (ok_law_same T 2) (hr.mono (by decide)) (by rfl) T.d_law_same.m T.d_law_same.F.kp T.d_law_same.b .nil pass0 (pa_cons (pe_call (ok_names_of T) (hr.mono (by decide)) (by rfl) T.d_names_of.m T.d_names_of.F.kp T.d_names_of.b .nil pass0 (pa_cons (pv 0) pa_nil)) (pa_cons (pv 2) pa_nil))))) (pw_or (pt_not (pt_val (pe_call (ok_law_same T 2) (hr.mono (by decide)) (by rfl) T.d_law_same.m T.d_law_same.F.kp T.d_law_same.b .nil pass0 (pa_cons (pe_call (ok_darts_of T) (hr.mono (by decide)) (by rfl) T.d_darts_of.m T.d_darts_of.F.kp T.d_darts_of.b .nil pass0 (pa_cons (pv 0) pa_nil)) (pa_cons (pe_callTy call_tuple_of (by rfl) T.n_tuple (by decide +kernel) (pa_cons (pv 5) pa_nil)) pa_nil))))) (pw_or1 (pt_not (pt_val (pe_call (ok_law_same T 2) (hr.mono (by decide)) (by rfl) T.d_law_same.m T.d_law_same.F.kp T.d_law_same.b .nil pass0 (pa_cons (pe_call (ok_links_of T) (hr.mono (by decide)) (by rfl) T.d_links_of.m T.d_links_of.F.kp T.d_links_of.b .nil pass0 (pa_cons (pv 0) pa_nil)) (pa_cons (pv 7) pa_nil)))))))))
    (pss_one (ps_ret pe_bl))
    pss_nil))
  (pss_cons (ps_set (i := 9) sc_law_asked.nd rfl (Or.inl rfl) pe_dnewK)
  (pss_cons (ps_mid (ps_for PassesOwn.never rfl (pi_tup (pv 1)) (pg_tup rfl (pgs_cons (pg_name (i := 3) sc_law_asked.nd rfl (Or.inr rfl)) (pgs_cons (pg_name (i := 4) sc_law_asked.nd rfl (Or.inl rfl)) pgs_nil)))
    (pss_cons (ps_dput (hu_of hr) (pv 9) (pv 3) (pv 4) rfl)
  (pss_one (ps_if (pt_not (pt_val (pe_call (ok_law_same T 2) (hr.mono (by decide)) (by rfl) T.d_law_same.m T.d_law_same.F.kp T.d_law_same.b .nil pass0 (pa_cons (pe_call (ok_law_heard T) (hr.mono (by decide)) (by rfl) T.d_law_heard.m T.d_law_heard.F.kp T.d_law_heard.b .nil pass0 (pa_cons pe_int (pa_cons (pv 0) (pa_cons (pv 3) (pa_cons pe_str pa_nil))))) (pa_cons (pv 4) pa_nil)))))
    (pss_one (ps_ret pe_bl))
    pss_nil)))))
  (pss_cons (ps_mid (ps_for PassesOwn.never rfl (pi_list (pv 5)) (pg_tup rfl (pgs_cons (pg_name (i := 10) sc_law_asked.nd rfl (Or.inl rfl)) (pgs_cons (pg_name (i := 11) sc_law_asked.nd rfl (Or.inl rfl)) pgs_nil)))
    (pss_cons (ps_set (i := 12) sc_law_asked.nd rfl (Or.inl rfl) (pe_dget (hu_of hr) (pv 9) (pv 11) (fun _ _ => rfl)))
  (pss_cons (ps_set (i := 13) sc_law_asked.nd rfl (Or.inl rfl) (pe_bmF PySem.F.plainAttrs_tuple PySem.F.slot_tuple_index PySem.F.type_tuple_index mt_tup_index (pv 12) (pa_cons (pv 10) pa_nil)))
  (pss_cons (ps_if (pt_not (pt_val (pe_call (ok_law_same T 2) (hr.mono (by decide)) (by rfl) T.d_law_same.m T.d_law_same.F.kp T.d_law_same.b .nil pass0 (pa_cons (pe_call (ok_law_heard T) (hr.mono (by decide)) (by rfl) T.d_law_heard.m T.d_law_heard.F.kp T.d_law_heard.b .nil pass0 (pa_cons pe_int (pa_cons (pv 0) (pa_cons (pv 10) (pa_cons (pv 11) pa_nil))))) (pa_cons (pe_tup (pa_cons (pv 11) (pa_cons (pe_ix ix_tup (pv 12) (pe_op op_modN (pe_callTy call_int1 (by rfl) T.n_int (by decide +kernel) (pa_cons (pe_op op_add (pv 13) pe_int) pa_nil)) (pe_callB call_len (by rfl) T.n_len (by decide +kernel) (pa_cons (pv 12) pa_nil))) (fun _ _ => rfl)) pa_nil))) pa_nil)))))
    (pss_one (ps_ret pe_bl))
    pss_nil)
  (pss_one (ps_if (pt_not (pt_val (pe_call (ok_law_same T 2) (hr.mono (by decide)) (by rfl) T.d_law_same.m T.d_law_same.F.kp T.d_law_same.b .nil pass0 (pa_cons (pe_call (ok_law_heard T) (hr.mono (by decide)) (by rfl) T.d_law_heard.m T.d_law_heard.F.kp T.d_law_heard.b .nil pass0 (pa_cons pe_int (pa_cons (pv 0) (pa_cons (pv 11) (pa_cons (pv 10) pa_nil))))) (pa_cons (pe_tup (pa_cons (pe_ix ix_tup (pv 12) (pe_op op_modN (pe_callTy call_int1 (by rfl) T.n_int (by decide +kernel) (pa_cons (pe_op op_add (pv 13) pe_int) pa_nil)) (pe_callB call_len (by rfl) T.n_len (by decide +kernel) (pa_cons (pv 12) pa_nil))) (fun _ _ => rfl)) (pa_cons (pe_ix ix_tup (pv 12) (pe_op op_sub (pv 13) pe_int) (fun _ _ => rfl)) pa_nil))) pa_nil)))))
    (pss_one (ps_ret pe_bl))
    pss_nil)))))))
  (pss_one (ps_ret pe_bl))))))))))), ?_⟩
    obtain ⟨a, b, c, xs, rfl, h1, h2, h3, h4⟩ := id hW.1
    have lM : xs.length = M.length := h3.len.1
    refine ⟨_, rfl, a, _, _, _, rfl, rfl, h1, rfl, ?_⟩
    refine ⟨_, rfl, b, rfl, ⟨_, h2⟩, fun D hD => lc_tup (K := K) (a := b) (xs := xs) (fun i H' => Same H H' ∧ H' D = some (.lst (((M.map (·.1)).take i).map V.str))) ?_ ?_ ?_ ?_⟩
    · exact ⟨same_new hD, upd_same⟩
    · rintro i H' _ ⟨s0, _⟩
      exact (Tm.of s0).sqT h2
    · rintro i x H' hi ⟨s0, hDa⟩
      obtain ⟨a', p, y, rfl, hp, hy, hs, hf⟩ := h3.get hi
      refine ⟨a', _, rfl, (Tm.of s0).sqT hs, rfl, _, _, rfl, _, _, rfl, rfl, ?_⟩
      refine ⟨rfl, ?_⟩
      refine ⟨_, rfl, _, hDa, ?_, s0.put hD, ?_⟩
      · rw [List.length_map, List.length_take, List.length_map]
        exact Nat.lt_of_le_of_lt (Nat.le_trans (Nat.min_le_right _ _) hM.len) (by decide : 40 < sizeLine)
      · rw [upd_same, take_snoc (l := M.map (·.1)) (x := p.1) (by rw [List.getElem?_map, hp]; rfl), List.map_append]
        rfl
    rintro H1 ⟨s1, hD1⟩
    have e1 : (M.map (·.1)).take xs.length = M.map (·.1) := List.take_of_length_le (by rw [lM, List.length_map]; exact Nat.le_refl _)
    rw [e1] at hD1
    refine ⟨D, _, rfl, .inl ⟨SqL.of hD1, fun pn hpn => ?_⟩⟩
    have s2 : Same H (upd H1 pn (.tup ((M.map (·.1)).map V.str))) := s1.trans (same_new hpn)
    refine ⟨(by show 0 ≤ sizeLine; decide), fun d0 hd0 => ?_⟩
    have npd : pn ≠ d0 := ne_of_none upd_same hd0
    have s3 := s2.trans (same_new (o := .lst []) hd0)
    refine ⟨fun σ' H' => ∃ (x3 x4 : Option V) (dl : Addr) (acc : List V), σ' = [some (.ref a), some (.ref b), some (.ref pn), x3, x4, some (.ref dl), none, none, none, none, none, none, none, none] ∧ Same H H' ∧ H' pn = some (.tup ((M.map (·.1)).map V.str)) ∧ H' dl = some (.lst acc) ∧ TdAll K H' acc ((darts M).map encD), ?_, ?_⟩
    · refine ⟨_, rfl, b, rfl, ⟨_, (Tm.of s3).sqT h2⟩, for_tup (K := K) (a := b) (xs := xs) (fun i σ' H' => ∃ (x3 x4 : Option V) (dl : Addr) (acc : List V), σ' = [some (.ref a), some (.ref b), some (.ref pn), x3, x4, some (.ref dl), none, none, none, none, none, none, none, none] ∧ Same H H' ∧ H' pn = some (.tup ((M.map (·.1)).map V.str)) ∧ H' dl = some (.lst acc) ∧ TdAll K H' acc ((darts (M.take i)).map encD)) ?_ ?_ ?_ ?_⟩
      · refine ⟨none, none, d0, [], rfl, s3, by rw [upd_ne npd, upd_same], upd_same, ?_⟩
        exact .nil
      · rintro i σ' H' _ ⟨_, _, _, _, _, s0, _⟩
        exact (Tm.of s0).sqT h2
      · rintro i x σ' H' hi ⟨x3, x4, dl, acc, rfl, s0, hpn', hdl, hda⟩
        obtain ⟨a', p, y, rfl, hp, hy, hs, hf⟩ := h3.get hi
        refine ⟨a', _, rfl, (Tm.of s0).sqT hs, rfl, _, _, rfl, _, _, rfl, rfl, ?_⟩
        refine ⟨_, rfl, ?_⟩
        refine ⟨_, rfl, ?_⟩
        dsimp only [tNil]
        refine sortD_strs (.inr (hf.mono (Tm.of s0)).sqT) fun l hl' => ?_
        have s1' : Same H' (upd H' l (.lst ((sortS p.2).map V.str))) := same_new hl'
        refine ⟨l, rfl, ⟨_, SqL.of upd_same⟩, fun E hE => lc_list (K := K) (a := l) (xs := (sortS p.2).map V.str) (fun j H2 => Same H' H2 ∧ H2 l = some (.lst ((sortS p.2).map V.str)) ∧ ∃ acc2, H2 E = some (.lst acc2) ∧ TdAll K H2 acc2 (((dartsOf p).take j).map encD)) ?_ ?_ ?_ ?_⟩
        · refine ⟨s1'.trans (same_new hE), ?_, [], upd_same, .nil⟩
          rw [upd_ne (ne_of_none upd_same hE), upd_same]
        · rintro j H2 _ ⟨_, h, _⟩
          exact SqL.of h
        · rintro j x H2 hj ⟨s2', hl2, acc2, hE2, hd2⟩
          rw [List.getElem?_map] at hj
          obtain ⟨o, ho, rfl⟩ : ∃ o, (sortS p.2)[j]? = some o ∧ x = V.str o := by
            cases e : (sortS p.2)[j]? with
            | none => rw [e] at hj; cases hj
            | some o => rw [e] at hj; exact ⟨o, rfl, (Option.some.inj hj).symm⟩
          have hd : (dartsOf p)[j]? = some (p.1, o) := by
            unfold dartsOf
            rw [List.getElem?_map, ho]
            rfl
          have hE0 : H' E = none := s1'.free hE
          refine ⟨rfl, ?_⟩
          refine ⟨_, rfl, _, rfl, (by show 2 ≤ sizeLine; decide), fun t ht => ?_⟩
          have nEt : E ≠ t := ne_of_none hE2 ht
          have nlt : l ≠ t := ne_of_none hl2 ht
          have nlE : l ≠ E := ne_of_none upd_same hE
          have s3' : Same H2 (upd H2 t (.tup [.str p.1, .str o])) := same_new ht
          refine ⟨acc2, s3' _ _ hE2, ?_, (s2'.trans s3').put hE0, ?_, acc2 ++ [.ref t], upd_same, ?_⟩
          · rw [hd2.length, List.length_map, List.length_take]
            have e2 := darts_take_len M (i + 1)
            rw [darts_snoc hp, List.length_append] at e2
            have e4 := hM.dlen
            exact Nat.lt_of_le_of_lt (by omega : _ ≤ 1000) (by decide)
          · rw [upd_ne nlE]
            exact s3' _ _ hl2
          · have tm : Tm H2 (upd (upd H2 t (.tup [.str p.1, .str o])) E (.lst (acc2 ++ [.ref t]))) := (Tm.of s3').trans (Tm.lst (s3' _ _ hE2))
            rw [take_snoc hd, List.map_append]
            exact (hd2.mono tm).append (.cons (td_dart (d := (p.1, o)) (SqT.of (by rw [upd_ne nEt.symm, upd_same]))) .nil)
        · rintro H2 ⟨s2', _, acc2, hE2, hd2⟩
          have e : (dartsOf p).take ((sortS p.2).map V.str).length = dartsOf p := List.take_of_length_le (by unfold dartsOf; rw [List.length_map, List.length_map]; exact Nat.le_refl _)
          rw [e] at hd2
          refine ⟨dl, E, acc, acc2, rfl, rfl, s2' _ _ hdl, hE2, ?_, fun r hr' => ?_⟩
          · rw [hda.length, hd2.length, List.length_map, List.length_map]
            have e2 := darts_take_len M (i + 1)
            rw [darts_snoc hp, List.length_append] at e2
            exact Nat.le_trans (Nat.le_trans e2 hM.dlen) (by decide)
          · have s4 : Same H2 (upd H2 r (.lst (acc ++ acc2))) := same_new hr'
            refine ⟨_, _, r, acc ++ acc2, rfl, (s0.trans s2').trans s4, s4 _ _ (s2' _ _ hpn'), upd_same, ?_⟩
            rw [darts_snoc hp, List.map_append]
            exact (hda.mono (Tm.of (s2'.trans s4))).append (hd2.mono (Tm.of s4))
      · rintro σ' H' ⟨x3, x4, dl, acc, rfl, s0, hpn', hdl, hda⟩
        have e2 : M.take xs.length = M := List.take_of_length_le (by rw [lM]; exact Nat.le_refl _)
        rw [e2] at hda
        exact ⟨x3, x4, dl, acc, rfl, s0, hpn', hdl, hda⟩
    rintro σ2 H2 ⟨x3, x4, dl, acc, rfl, s4, hpn2, hdl, hda⟩
    refine ⟨_, rfl, dl, rfl, ⟨_, SqL.of hdl⟩, fun D hD => lc_list (K := K) (a := dl) (xs := acc) (fun i H' => Same H2 H' ∧ ∃ acc2, H' D = some (.lst acc2) ∧ TdAll K H' acc2 ((((darts M).take i).filter fun d => ltS d.1 d.2).map encD)) ?_ ?_ ?_ ?_⟩
    · exact ⟨same_new hD, [], upd_same, .nil⟩
    · rintro i H' _ ⟨s0, _⟩
      exact SqL.of (s0 _ _ hdl)
    · rintro i x H' hi ⟨s0, acc2, hDa, hda2⟩
      obtain ⟨e, he, hde⟩ := hda.get hi
      rw [List.getElem?_map] at he
      obtain ⟨dd, hdd, rfl⟩ : ∃ dd, (darts M)[i]? = some dd ∧ e = encD dd := by
        cases z : (darts M)[i]? with
        | none => rw [z] at he; cases he
        | some u => rw [z] at he; exact ⟨u, rfl, (Option.some.inj he).symm⟩
      obtain ⟨a', rfl, hs⟩ := td_dart_inv hde
      have hs' := (Tm.of s0).sqT hs
      refine ⟨rfl, ?_⟩
      refine ⟨_, rfl, a', _, _, V.str dd.1, rfl, rfl, hs', rfl, _, rfl, a', _, _, V.str dd.2, rfl, rfl, hs', rfl, _, _, rfl, rfl, _, rfl, ?_⟩
      show if ltS dd.1 dd.2 = true then _ else _
      rw [take_snoc hdd, List.filter_append]
      by_cases h : ltS dd.1 dd.2 = true
      · rw [if_pos h, List.filter_cons_of_pos (by exact h), List.filter_nil, List.map_append]
        refine ⟨_, rfl, acc2, hDa, ?_, s0.put hD, acc2 ++ [.ref a'], upd_same, ?_⟩
        · rw [hda2.length, List.length_map]
          refine Nat.lt_of_le_of_lt (Nat.le_trans (List.length_filter_le _ _) ?_) (by decide : 1000 < sizeLine)
          rw [List.length_take]
          exact Nat.le_trans (Nat.min_le_right _ _) hM.dlen
        · exact (hda2.mono (Tm.lst hDa)).append (.cons (td_dart (d := dd) ((Tm.lst hDa).sqT hs')) .nil)
      · rw [if_neg h, List.filter_cons_of_neg (by exact h), List.filter_nil, List.append_nil]
        exact ⟨s0, acc2, hDa, hda2⟩
    rintro H3 ⟨s5, acc2, hD3, hda2⟩
    have e3 : (darts M).take acc.length = darts M := List.take_of_length_le (by rw [hda.length, List.length_map]; exact Nat.le_refl _)
    rw [e3] at hda2
    refine ⟨D, acc2, rfl, .inl ⟨SqL.of hD3, fun ln hln => ?_⟩⟩
    have s6 : Same H3 (upd H3 ln (.tup acc2)) := same_new hln
    have s7 := s4.trans (s5.trans s6)
    refine ⟨fun σ' H' => σ' = [some (.ref a), some (.ref b), some (.ref pn), x3, x4, some (.ref dl), none, some (.ref ln), none, none, none, none, none, none] ∧ Same H H' ∧ H' dl = some (.lst acc) ∧ TdAll K H' acc ((darts M).map encD), ?_, ?_⟩
    · have hpn4 := s6 _ _ (s5 _ _ hpn2)
      refine ⟨_, rfl, _, M, ys, d, rfl, hW.mono (Tm.of s7), fun p1 H5 s8 hp1 => ?_⟩
      refine ⟨_, rfl, _, _, _, rfl, Td.strs (SqT.of hp1), Td.strs (SqT.of (s8 _ _ hpn4)), depth_strs _, small_strs _ (by rw [List.length_map]; exact Nat.le_trans hM.len (by decide)), fun H6 s9 => ⟨_, rfl, iteF ?_⟩⟩
      have s10 := s7.trans (s8.trans s9)
      refine ⟨_, rfl, _, M, ys, d, rfl, hW.mono (Tm.of s10), fun p2 H7 zs s11 hp2 tz => ?_⟩
      have t1 := Tm.of (s6.trans (s8.trans (s9.trans s11)))
      refine ⟨_, rfl, dl, acc, rfl, .inl ⟨SqL.of (s11 _ _ (s9 _ _ (s8 _ _ (s6 _ _ (s5 _ _ hdl))))), fun q3 hq3 => ?_⟩⟩
      have s12 : Same H7 (upd H7 q3 (.tup acc)) := same_new hq3
      refine ⟨_, _, .tuple ((darts M).map encD), rfl, .tup (SqT.of (s12 _ _ hp2)) (tz.mono (Tm.of s12)), .tup (SqT.of upd_same) (((hda.mono (Tm.of s5)).mono t1).mono (Tm.of s12)), depth_darts _, small_darts _ hM.dlen, fun H8 s13 => ⟨_, rfl, iteF ?_⟩⟩
      have s14 := s10.trans (s11.trans (s12.trans s13))
      refine ⟨_, rfl, _, M, ys, d, rfl, hW.mono (Tm.of s14), fun p4 H9 zs4 s15 hp4 tz4 => ?_⟩
      have s16 := s8.trans (s9.trans (s11.trans (s12.trans (s13.trans s15))))
      refine ⟨_, rfl, _, _, .tuple ((links M).map encD), rfl, .tup (SqT.of hp4) tz4, .tup (SqT.of (s16 _ _ upd_same)) ((hda2.mono (Tm.of s6)).mono (Tm.of s16)), depth_darts _, small_darts _ (Nat.le_trans (List.length_filter_le _ _) hM.dlen), fun H10 s17 => ⟨_, rfl, iteF ?_⟩⟩
      have s18 := s5.trans (s6.trans (s16.trans s17))
      exact ⟨rfl, s4.trans s18, s18 _ _ hdl, hda.mono (Tm.of s18)⟩
    rintro σ3 H4 ⟨rfl, s8, hdl4, hda4⟩
    refine fun t ht => ?_
    have st := same_new (o := .dK []) ht
    refine ⟨fun σ' H' => ∃ (x3 x4 : Option V), σ' = [some (.ref a), some (.ref b), some (.ref pn), x3, x4, some (.ref dl), none, some (.ref ln), none, some (.ref t), none, none, none, none] ∧ Same H4 H' ∧ H' t = some (.dK (tabOf M ys)), ?_, ?_⟩
    · refine ⟨_, rfl, b, rfl, ⟨_, (Tm.of (s8.trans st)).sqT h2⟩, for_tup (K := K) (a := b) (xs := xs) (fun i σ' H' => ∃ (x3 x4 : Option V), σ' = [some (.ref a), some (.ref b), some (.ref pn), x3, x4, some (.ref dl), none, some (.ref ln), none, some (.ref t), none, none, none, none] ∧ Same H4 H' ∧ H' t = some (.dK (tabOf (M.take i) (ys.take i)))) ?_ ?_ ?_ ?_⟩
      · exact ⟨_, _, rfl, st, upd_same⟩
      · rintro i σ' H' _ ⟨_, _, _, s0, _⟩
        exact (Tm.of (s8.trans s0)).sqT h2
      · rintro i x σ' H' hi ⟨x3, x4, rfl, s0, ht'⟩
        obtain ⟨a', p, y, rfl, hp, hy, hs, hf⟩ := h3.get hi
        refine ⟨a', _, rfl, (Tm.of (s8.trans s0)).sqT hs, rfl, _, _, rfl, _, _, rfl, rfl, ?_⟩
        refine ⟨_, rfl, _, rfl, _, rfl, t, _, rfl, DPut.k (k := .inr p.1) ht' (Nat.lt_of_le_of_lt (Nat.le_trans tab_len (by rw [List.length_take]; exact Nat.min_le_right _ _)) (Nat.lt_of_le_of_lt hM.len (by decide))), ?_⟩
        rw [tab_put hp hy hM.nd]
        have s9 : Same H4 (upd H' t (.dK (tabOf (M.take (i + 1)) (ys.take (i + 1))))) := s0.put ht
        refine ⟨_, rfl, _, rfl, 0, _, M, ys, d, p.1, ⟨#[]⟩, rfl, hW.mono (Tm.of (s8.trans s9)), .inl ⟨rfl, fun j ws y' hj hy' H6 s10 => ?_, fun hno => absurd (List.mem_map.mpr ⟨p, List.mem_of_getElem? hp, rfl⟩) hno⟩⟩
        have hji : j = i := nd_ix (l := M.map (·.1)) hM.nd (by rw [List.getElem?_map, hj]; rfl) (by rw [List.getElem?_map, hp]; rfl)
        subst hji
        rw [hy] at hy'
        cases hy'
        have hsq := ((hf.mono (Tm.of (s8.trans (s9.trans s10)))).sqT (K := K))
        have hl1 : p.2.length ≤ 1000 := by
          have e1 : (dartsOf p).length = p.2.length := by unfold dartsOf; rw [List.length_map, sortS_len]
          have e2 := darts_take_len M (j + 1)
          rw [darts_snoc hp, List.length_append] at e2
          have e4 := hM.dlen
          omega
        refine ⟨_, rfl, _, _, .tuple (p.2.map .str), rfl, Td.strs hsq, Td.strs hsq, depth_strs _, small_strs _ hl1, fun H7 s11 => ⟨_, rfl, iteF ?_⟩⟩
        exact ⟨_, _, rfl, s9.trans (s10.trans s11), s11 _ _ (s10 _ _ upd_same)⟩
      · rintro σ' H' ⟨x3, x4, rfl, s0, ht'⟩
        have e1 : M.take xs.length = M := List.take_of_length_le (by rw [lM]; exact Nat.le_refl _)
        have e2 : ys.take xs.length = ys := List.take_of_length_le (by rw [lM, h3.len.2]; exact Nat.le_refl _)
        rw [e1, e2] at ht'
        exact ⟨x3, x4, rfl, s0, ht'⟩
    rintro σ4 H5 ⟨x3, x4, rfl, s9, ht5⟩
    have hT5 := hW.1.tab (Tm.of (s8.trans s9)) hM.nd ht5
    refine ⟨fun σ' H' => Same H H', ?_, fun σ' H' z => q H' z⟩
    refine ⟨_, rfl, dl, rfl, ⟨_, SqL.of (s9 _ _ hdl4)⟩, for_list (K := K) (a := dl) (xs := acc) (fun i σ' H' => ∃ (u v x y : Option V), σ' = [some (.ref a), some (.ref b), some (.ref pn), x3, x4, some (.ref dl), none, some (.ref ln), none, some (.ref t), u, v, x, y] ∧ Same H5 H') ?_ ?_ ?_ ?_⟩
    · exact ⟨_, _, _, _, rfl, Same.refl H5⟩
    · rintro i σ' H' _ ⟨_, _, _, _, _, s0⟩
      exact SqL.of (s0 _ _ (s9 _ _ hdl4))
    · rintro i x σ' H' hi ⟨u, v, x', y', rfl, s0⟩
      obtain ⟨e, he, hde⟩ := hda4.get hi
      rw [List.getElem?_map] at he
      obtain ⟨⟨n1, n2⟩, hdd, rfl⟩ : ∃ dd, (darts M)[i]? = some dd ∧ e = encD dd := by
        cases z : (darts M)[i]? with
        | none => rw [z] at he; cases he
        | some u => rw [z] at he; exact ⟨u, rfl, (Option.some.inj he).symm⟩
      obtain ⟨a', rfl, hs⟩ := td_dart_inv hde
      obtain ⟨j, k, ws, hj, hk, hfirst, hw1, hw2⟩ := hM.dart (List.mem_of_getElem? hdd)
      have s10 := s9.trans s0
      have s11 := s8.trans s10
      refine ⟨a', _, rfl, (Tm.of s10).sqT hs, rfl, _, _, rfl, _, _, rfl, rfl, ?_⟩
      have hjy : j < ys.length := by
        rw [hW.1.ylen]
        exact (List.getElem?_eq_some_iff.mp hj).1
      have hy : ys[j]? = some ys[j] := List.getElem?_eq_getElem hjy
      have hF : FT H' ys[j] (ws.map V.str) := (hT5.2.2.2 j _ _ hj hy).mono (Tm.of s0)
      refine ⟨_, rfl, _, rfl, t, .ref ys[j], rfl, ?_, ?_⟩
      · show DGet _ t (kV (.inr n2)) (some (.ref ys[j]))
        rw [← tab_val hM.nd hj hy]
        exact DGet.k (s0 _ _ ht5)
      obtain ⟨o, ho, hoc, hod⟩ := id hF
      have hsT := hF.sqT (K := K)
      have hne : (ws.length : Int) ≠ 0 := by
        have := (List.getElem?_eq_some_iff.mp hk).1
        omega
      refine ⟨_, rfl, ⟨ys[j], o, _, rfl, ho, hoc, hod⟩, _, rfl, ys[j], ws, n1, k, rfl, rfl, hsT, hk, hfirst, ?_⟩
      have hmodlt : (k + 1) % ws.length < ws.length := Nat.mod_lt _ (Nat.lt_of_le_of_lt (Nat.zero_le _) (List.getElem?_eq_some_iff.mp hk).1)
      have hix : atI (ws.map V.str) (((k : Int) + 1).fmod ((ws.map V.str).length : Nat)) = some (.str ws[(k + 1) % ws.length]) := by
        have e : ((k : Int) + 1).fmod ((ws.map V.str).length : Nat) = (((k + 1) % ws.length : Nat) : Int) := by
          rw [List.length_map, Int.fmod_eq_emod_of_nonneg _ (by omega), Int.natCast_emod, Int.natCast_add]
          rfl
        rw [e]
        exact atI_nat (by rw [List.getElem?_map, List.getElem?_eq_getElem hmodlt]; rfl)
      have hz := List.getElem?_eq_getElem hmodlt
      refine ⟨_, rfl, _, rfl, _, rfl, 1, _, M, ys, d, n1, n2, rfl, hW.mono (Tm.of s11), .inr (.inl ⟨rfl, fun _ => ⟨ws[(k + 1) % ws.length], ⟨j, k, ws, hj, hk, hfirst, hz⟩, fun p1 H6 s12 _ hp1 => ?_⟩, fun hno => absurd hw2 hno⟩)⟩
      have hsT6 := (Tm.of s12).sqT hsT
      refine ⟨_, rfl, _, rfl, _, rfl, _, _, rfl, rfl, .inl ⟨_, rfl, _, rfl, _, _, rfl, .inr ⟨_, hsT6, rfl⟩, _, _, rfl, rfl, by rw [List.length_map]; exact hne, ys[j], _, _, _, rfl, rfl, hsT6, hix, (by show 2 ≤ sizeLine; decide), fun r hr' => ?_⟩⟩
      have s13 := s12.trans (same_new (o := .tup [V.str n2, V.str ws[(k + 1) % ws.length]]) hr')
      refine ⟨_, _, encD (n2, ws[(k + 1) % ws.length]), rfl, td_dart (SqT.of (same_new hr' _ _ hp1)), td_dart (SqT.of upd_same), depth_dart _, small_dart _, fun H7 s14 => ⟨_, rfl, iteF ?_⟩⟩
      have s15 := s13.trans s14
      have hul : (if k = 0 then ws.length - 1 else k - 1) < ws.length := by
        have := (List.getElem?_eq_some_iff.mp hk).1
        split <;> omega
      obtain ⟨u0, hu⟩ : ∃ u0, ws[if k = 0 then ws.length - 1 else k - 1]? = some u0 := ⟨_, List.getElem?_eq_getElem hul⟩
      have hux : atI (ws.map V.str) ((k : Int) - 1) = some (.str u0) := by
        by_cases h0 : k = 0
        · subst h0
          exact atI_neg1 (xs := ws.map V.str) (by rw [List.length_map, List.getElem?_map]; rw [if_pos rfl] at hu; rw [hu]; rfl)
        · have e : (k : Int) - 1 = ((k - 1 : Nat) : Int) := by omega
          rw [e]
          exact atI_nat (by rw [List.getElem?_map]; rw [if_neg h0] at hu; rw [hu]; rfl)
      refine ⟨_, rfl, _, rfl, _, rfl, 2, _, M, ys, d, n2, n1, rfl, hW.mono (Tm.of (s11.trans s15)), .inr (.inr ⟨rfl, fun _ => ⟨_, _, ⟨j, k, ws, hj, hk, hfirst, hz, hu⟩, fun p2 H8 s16 _ hp2 => ?_⟩, fun hno => absurd hw1 hno⟩)⟩
      have hsT8 := (Tm.of (s15.trans s16)).sqT hsT
      refine ⟨_, rfl, _, rfl, _, _, rfl, rfl, .inl ⟨_, rfl, _, rfl, _, _, rfl, .inr ⟨_, hsT8, rfl⟩, _, _, rfl, rfl, by rw [List.length_map]; exact hne, ys[j], _, _, _, rfl, rfl, hsT8, hix, ?_⟩⟩
      refine ⟨_, rfl, _, rfl, _, _, rfl, rfl, ys[j], _, _, _, rfl, rfl, hsT8, hux, (by show 2 ≤ sizeLine; decide), fun r2 hr2 => ?_⟩
      refine ⟨_, _, encD (ws[(k + 1) % ws.length], u0), rfl, td_dart (SqT.of (same_new hr2 _ _ hp2)), td_dart (SqT.of upd_same), depth_dart _, small_dart _, fun H9 s17 => ⟨_, rfl, iteF ?_⟩⟩
      exact ⟨_, _, _, _, rfl, s0.trans (s15.trans (s16.trans ((same_new hr2).trans s17)))⟩
    · rintro σ' H' ⟨_, _, _, _, _, s0⟩
      exact s8.trans (s9.trans s0)
end
end K2
namespace K2
open PySem PyProof.Rows L2 HD
theorem MapOk.far {M : List Pl} (h : MapOk M) {a b : Str} (hb : b ∈ waysOf M a) : b ∈ M.map (·.1) ∧ a ∈ M.map (·.1) ∧ a ≠ b := by
  by_cases ha : a ∈ M.map (·.1)
  · obtain ⟨p, hp, rfl⟩ := List.mem_map.mp ha
    obtain ⟨j, hj⟩ := List.mem_iff_getElem?.mp hp
    rw [ways_at h.nd hj] at hb
    obtain ⟨q, hq, rfl, hx⟩ := h.sym p hp b hb
    exact ⟨List.mem_map.mpr ⟨q, hq, rfl⟩, ha, fun e => h.self p hp (e ▸ hb)⟩
  · rw [ways_no ha] at hb
    cases hb
/-- no names, by their spelling -/
def noS (n0 nL : Str) : List Str := ["", "zz1", "A", n0 ++ ("x" : Str), "a b", nL ++ ("0" : Str), "b0x0c0x0d"]
def oddS (ns : List Str) (n0 nL : Str) : List Str := (noS n0 nL).filter fun x => !decide (x ∈ ns)
theorem odd_not {ns : List Str} {n0 nL x : Str} (h : x ∈ oddS ns n0 nL) : x ∉ ns := by
  have := (List.mem_filter.mp h).2
  simpa using this
/-- a pair that is no dart -/
def Bad (K : PySem.W.Frag) (H : Hp) (M : List Pl) (v : V) : Prop := ∃ a b, Td K H v (encD (a, b)) ∧ b ∉ waysOf M a
theorem Bad.mono {K : PySem.W.Frag} {H H' : Hp} {M : List Pl} {v : V} (e : Tm H H') (h : Bad K H M v) : Bad K H' M v := by
  obtain ⟨a, b, t, n⟩ := h
  exact ⟨a, b, t.mono e, n⟩
section
variable {P : Program} {w : World} {K : PySem.W.Frag} {mg : Str → Option Value} {base : Heap}
def spRefusals (K : PySem.W.Frag) : Sp := fun vs H Q _ => ∃ (t h : Addr) (v : V) (M : List Pl) (ys : List Addr) (d : Str × Str), vs = [.ref t, v] ∧ Tin H t h ∧ Web K H v M ys d ∧ MapOk M ∧ ∀ H', Rst t h H H' → Tin H' t h → Q (.bl true) H'
theorem ok_law_refusals (T : Txt K mg) : FnOk P w K mg base CX0 7 T.d_law_refusals.f T.d_law_refusals.fd ["tin", "web"] (spRefusals K) := by
  refine T.d_law_refusals.F.ok sc_law_refusals (fun vs H Q E h => ?_) (fun cdv A outer s H vs Q E hr h => ?_)
  · obtain ⟨_, _, _, _, _, _, rfl, _⟩ := h
    rfl
  · obtain ⟨t, hh, v, M, ys, d, rfl, hT, hW, hM, q⟩ := h
    refine ⟨_, (pss_cons (ps_set (i := 2) sc_law_refusals.nd rfl (Or.inr rfl) (pe_lc (g := (gTup K 2 (gCons (gName 3) (gCons (gName 4) gNil)))) (tt := _) (te := (tVar 3)) (own := [("name", 3), ("ways", 4)]) rfl sc_law_refusals.nd (pi_tup (pe_ix ix_tup (pv 1) pe_int (fun _ _ => rfl))) (blkOk_by (own := [("name", 3), ("ways", 4)]) (N := ["tin", "web", "names", "name", "ways", "no", "odd", "one", "table", "pairs", "far", "a", "b", "other"]) (sc := defScope s_law_refusals) (by decide +kernel)) (fun _ _ _ _ _ => by refine (pg_tup ?_ ?_); (exact rfl); (refine (pgs_cons ?_ ?_); (refine (pg_name (i := 3) ?_ ?_ ?_); (exact sc_law_refusals.nd); (exact rfl); (exact (Or.inl rfl))); (refine (pgs_cons ?_ ?_); (refine (pg_name (i := 4) ?_ ?_ ?_); (exact sc_law_refusals.nd); (exact rfl); (exact (Or.inl rfl))); (exact pgs_nil)))) (fun _ _ _ _ _ => by exact pts_nil) (fun _ _ _ _ _ => by exact (pv 3))))
  (pss_cons (ps_set (i := 5) sc_law_refusals.nd rfl (Or.inl rfl) (pe_lst (pa_cons pe_str (pa_cons pe_str (pa_cons pe_str (pa_cons (pe_op op_add_str (pe_ix ix_list (pv 2) pe_int (fun _ _ => rfl)) pe_str) (pa_cons pe_str (pa_cons (pe_op op_add_str (pe_ix ix_list (pv 2) (pe_un un_neg pe_int) (fun _ _ => rfl)) pe_str) (pa_cons pe_str pa_nil)))))))))
  (pss_cons (ps_setLc (g := (gName 3)) (tt := (tTest (tOp (rIn K true) (tVar 3) (tVar 2)))) (te := (tVar 3)) (i := 6) (own := [("name", 3)]) rfl sc_law_refusals.nd rfl rfl (sw_true rfl rfl rfl (by decide +kernel)) (pi_list (pv 5)) (blkOk_by (own := [("name", 3)]) (N := ["tin", "web", "names", "name", "ways", "no", "odd", "one", "table", "pairs", "far", "a", "b", "other"]) (sc := defScope s_law_refusals) (by decide +kernel)) (fun _ _ _ _ _ => by refine (pg_name (i := 3) ?_ ?_ ?_); (exact sc_law_refusals.nd); (exact rfl); (exact (Or.inl rfl))) (fun _ _ _ _ _ => by refine (pts_one ?_); (refine (pt_cmpR op_notIn_seq ?_ ?_ (by rfl)); (exact (pv 3)); (exact (pv 2)))) (fun _ _ _ _ _ => by exact (pv 3)))
  (pss_cons (ps_set (i := 7) sc_law_refusals.nd rfl (Or.inr rfl) (pe_ix ix_list (pv 2) (pe_call (ok_law_spill T) (hr.mono (by decide)) (by rfl) T.d_law_spill.m T.d_law_spill.F.kp T.d_law_spill.b .nil pass0 (pa_cons (pv 0) (pa_cons (pe_callB call_len (by rfl) T.n_len (by decide +kernel) (pa_cons (pv 2) pa_nil)) pa_nil))) (fun _ _ => rfl)))
  (pss_cons (ps_mid (ps_for PassesOwn.never rfl (pi_list (pv 6)) (pg_name (i := 3) sc_law_refusals.nd rfl (Or.inl rfl))
    (pss_one (ps_if (pt_not (pt_val (pe_call (ok_law_refused T) (hr.mono (by decide)) (by rfl) T.d_law_refused.m T.d_law_refused.F.kp T.d_law_refused.b .nil pass0 (pa_cons pe_int (pa_cons (pv 1) (pa_cons (pv 3) (pa_cons pe_str pa_nil)))))))
    (pss_one (ps_ret pe_bl))
    pss_nil))))
  (pss_cons (ps_set (i := 8) sc_law_refusals.nd rfl (Or.inr rfl) pe_dnewK)
  (pss_cons (ps_mid (ps_for PassesOwn.never rfl (pi_tup (pe_ix ix_tup (pv 1) pe_int (fun _ _ => rfl))) (pg_tup rfl (pgs_cons (pg_name (i := 3) sc_law_refusals.nd rfl (Or.inl rfl)) (pgs_cons (pg_name (i := 4) sc_law_refusals.nd rfl (Or.inl rfl)) pgs_nil)))
    (pss_one (ps_dput (hu_of hr) (pv 8) (pv 3) (pv 4) rfl))))
  (pss_cons (ps_set (i := 9) sc_law_refusals.nd rfl (Or.inl rfl) (pe_lst (pa_cons (pe_tup (pa_cons (pv 7) (pa_cons (pv 7) pa_nil))) (pa_cons (pe_tup (pa_cons (pv 7) (pa_cons (pe_ix ix_list (pv 6) (pe_call (ok_law_spill T) (hr.mono (by decide)) (by rfl) T.d_law_spill.m T.d_law_spill.F.kp T.d_law_spill.b .nil pass0 (pa_cons (pv 0) (pa_cons (pe_callB call_len (by rfl) T.n_len (by decide +kernel) (pa_cons (pv 6) pa_nil)) pa_nil))) (fun _ _ => rfl)) pa_nil))) (pa_cons (pe_tup (pa_cons (pe_ix ix_list (pv 6) (pe_call (ok_law_spill T) (hr.mono (by decide)) (by rfl) T.d_law_spill.m T.d_law_spill.F.kp T.d_law_spill.b .nil pass0 (pa_cons (pv 0) (pa_cons (pe_callB call_len (by rfl) T.n_len (by decide +kernel) (pa_cons (pv 6) pa_nil)) pa_nil))) (fun _ _ => rfl)) (pa_cons (pv 7) pa_nil))) (pa_cons (pe_tup (pa_cons (pe_ix ix_list (pv 6) pe_int (fun _ _ => rfl)) (pa_cons (pe_ix ix_list (pv 6) pe_int (fun _ _ => rfl)) pa_nil))) pa_nil))))))
  (pss_cons (ps_setLc (g := (gName 3)) (tt := (tAnd (tTest (tOp rNe (tVar 3) (tVar 7))) (tTest (tOp (rIn K true) (tVar 3) (tDGet (tVar 8) (tVar 7)))))) (te := (tTup (tCons (tVar 7) (tCons (tVar 3) tNil)))) (i := 10) (own := [("name", 3)]) rfl sc_law_refusals.nd rfl rfl (sw_true rfl rfl rfl (by decide +kernel)) (pi_list (pv 2)) (blkOk_by (own := [("name", 3)]) (N := ["tin", "web", "names", "name", "ways", "no", "odd", "one", "table", "pairs", "far", "a", "b", "other"]) (sc := defScope s_law_refusals) (by decide +kernel)) (fun _ _ _ _ _ => by refine (pg_name (i := 3) ?_ ?_ ?_); (exact sc_law_refusals.nd); (exact rfl); (exact (Or.inl rfl))) (fun _ _ _ _ _ => by refine (pts_one ?_); (refine (PW.pt ?_); (refine (pw_and ?_ ?_); (refine (pt_cmpR op_ne ?_ ?_ (nomark _)); (exact (pv 3)); (exact (pv 7))); (refine (pw_and1 ?_); (refine (pt_cmpR op_notIn_seq ?_ ?_ (by rfl)); (exact (pv 3)); (refine (pe_dget (hu_of hr) ?_ ?_ (fun _ _ => rfl)); (exact (pv 8)); (exact (pv 7)))))))) (fun _ _ _ _ _ => by refine (pe_tup ?_); (refine (pa_cons ?_ ?_); (exact (pv 7)); (refine (pa_cons ?_ ?_); (exact (pv 3)); (exact pa_nil)))))
  (pss_cons (ps_mid (ps_for PassesOwn.never rfl (pi_list (pe_op op_cat (pv 9) (pe_slice sl_list (pe_call (ok_law_strewn T) (hr.mono (by decide)) (by rfl) T.d_law_strewn.m T.d_law_strewn.F.kp T.d_law_strewn.b .nil pass0 (pa_cons (pv 0) (pa_cons (pv 10) pa_nil))) po_none (po_some pe_int)))) (pg_tup rfl (pgs_cons (pg_name (i := 11) sc_law_refusals.nd rfl (Or.inl rfl)) (pgs_cons (pg_name (i := 12) sc_law_refusals.nd rfl (Or.inl rfl)) pgs_nil)))
    (pss_one (ps_if (PW.pt (pw_or (pt_not (pt_val (pe_call (ok_law_refused T) (hr.mono (by decide)) (by rfl) T.d_law_refused.m T.d_law_refused.F.kp T.d_law_refused.b .nil pass0 (pa_cons pe_int (pa_cons (pv 1) (pa_cons (pv 11) (pa_cons (pv 12) pa_nil))))))) (pw_or1 (pt_not (pt_val (pe_call (ok_law_refused T) (hr.mono (by decide)) (by rfl) T.d_law_refused.m T.d_law_refused.F.kp T.d_law_refused.b .nil pass0 (pa_cons pe_int (pa_cons (pv 1) (pa_cons (pv 11) (pa_cons (pv 12) pa_nil))))))))))
    (pss_one (ps_ret pe_bl))
    pss_nil))))
  (pss_cons (ps_set (i := 13) sc_law_refusals.nd rfl (Or.inl rfl) (pe_ix ix_tup (pe_dget (hu_of hr) (pv 8) (pv 7) (fun _ _ => rfl)) (pe_un un_neg pe_int) (fun _ _ => rfl)))
  (pss_one (ps_ret (pe_call (ok_law_same T 2) (hr.mono (by decide)) (by rfl) T.d_law_same.m T.d_law_same.F.kp T.d_law_same.b .nil pass0 (pa_cons (HX.pe_callK00 (ok_next_ways T) (hr.mono (by decide)) (by rfl) T.d_next_ways.m T.d_next_ways.F.kp (kb_next_ways_b_a_web T) HX.passN0 (pk_cons (pv 13) (pk_cons (pv 7) (pk_cons (pv 1) pk_nil)))) (pa_cons (pe_tup (pa_cons (pe_ix ix_tup (pe_dget (hu_of hr) (pv 8) (pv 7) (fun _ _ => rfl)) pe_int (fun _ _ => rfl)) (pa_cons (pe_ix ix_tup (pe_dget (hu_of hr) (pv 8) (pv 7) (fun _ _ => rfl)) (pe_ifExp (pt_cmpR op_gt (pe_callB call_len (by rfl) T.n_len (by decide +kernel) (pa_cons (pe_dget (hu_of hr) (pv 8) (pv 7) (fun _ _ => rfl)) pa_nil)) pe_int (nomark _)) (pe_op op_sub (pe_callB call_len (by rfl) T.n_len (by decide +kernel) (pa_cons (pe_dget (hu_of hr) (pv 8) (pv 7) (fun _ _ => rfl)) pa_nil)) pe_int) pe_int) (fun _ _ => rfl)) pa_nil))) pa_nil)))))))))))))))), ?_⟩
    obtain ⟨a, b, c, xs, rfl, h1, h2, h3, h4⟩ := id hW.1
    have lM : xs.length = M.length := h3.len.1
    refine ⟨_, rfl, a, _, _, _, rfl, rfl, h1, rfl, ?_⟩
    refine ⟨b, rfl, ⟨_, h2⟩, fun D hD => lc_tup (K := K) (a := b) (xs := xs) (fun i H' => Same H H' ∧ H' D = some (.lst (((M.map (·.1)).take i).map V.str))) ?_ ?_ ?_ ?_⟩
    · exact ⟨same_new hD, upd_same⟩
    · rintro i H' _ ⟨s0, _⟩
      exact (Tm.of s0).sqT h2
    · rintro i x H' hi ⟨s0, hDa⟩
      obtain ⟨a', p, y, rfl, hp, hy, hs, hf⟩ := h3.get hi
      refine ⟨a', _, rfl, (Tm.of s0).sqT hs, rfl, _, _, rfl, _, _, rfl, rfl, ?_⟩
      refine ⟨rfl, ?_⟩
      refine ⟨_, rfl, _, hDa, ?_, s0.put hD, ?_⟩
      · rw [List.length_map, List.length_take, List.length_map]
        exact Nat.lt_of_le_of_lt (Nat.le_trans (Nat.min_le_right _ _) hM.len) (by decide : 40 < sizeLine)
      · rw [upd_same, take_snoc (l := M.map (·.1)) (x := p.1) (by rw [List.getElem?_map, hp]; rfl), List.map_append]
        rfl
    rintro H1 ⟨s1, hD1⟩
    have e1 : (M.map (·.1)).take xs.length = M.map (·.1) := List.take_of_length_le (by rw [lM, List.length_map]; exact Nat.le_refl _)
    rw [e1] at hD1
    have nlen : (M.map (·.1)).length = M.length := List.length_map ..
    have hM2 := hM.len2
    have hM40 := hM.len
    obtain ⟨n0, hn0⟩ : ∃ n0, (M.map (·.1))[0]? = some n0 := ⟨_, List.getElem?_eq_getElem (by omega)⟩
    obtain ⟨nL, hnL⟩ : ∃ nL, (M.map (·.1))[(M.map (·.1)).length - 1]? = some nL := ⟨_, List.getElem?_eq_getElem (by omega)⟩
    have nl20 : ∀ {x : Str} {i : Nat}, (M.map (·.1))[i]? = some x → x.length ≤ 20 := fun {x i} e => by
      obtain ⟨p, hp, rfl⟩ := List.mem_map.mp (List.mem_of_getElem? e)
      exact hM.nlen p hp
    refine ⟨_, rfl, D, _, _, V.str n0, rfl, rfl, SqL.of hD1, atI_nat (j := 0) (by rw [List.getElem?_map, hn0]; rfl), ?_⟩
    refine ⟨_, _, rfl, rfl, Nat.le_trans (Nat.add_le_add_right (nl20 hn0) 1) (by decide), ?_⟩
    refine ⟨_, rfl, _, rfl, D, _, _, V.str nL, rfl, rfl, SqL.of hD1, atI_neg1 (by rw [List.length_map, List.getElem?_map, hnL]; rfl), ?_⟩
    refine ⟨_, _, rfl, rfl, Nat.le_trans (Nat.add_le_add_right (nl20 hnL) 1) (by decide), (by show 7 ≤ sizeLine; decide), fun L hL => ?_⟩
    have s2 := s1.trans (same_new (o := .lst ((noS n0 nL).map V.str)) hL)
    refine ⟨_, rfl, L, rfl, ⟨_, SqL.of upd_same⟩, fun O hO => lc_list (K := K) (a := L) (xs := (noS n0 nL).map V.str) (fun i H' => Same (upd H1 L (.lst ((noS n0 nL).map V.str))) H' ∧ H' O = some (.lst ((((noS n0 nL).take i).filter fun x => !decide (x ∈ M.map (·.1))).map V.str))) ?_ ?_ ?_ ?_⟩
    · exact ⟨same_new hO, upd_same⟩
    · rintro i H' _ ⟨s0, _⟩
      exact SqL.of (s0 _ _ upd_same)
    · rintro i x H' hi ⟨s0, hOa⟩
      rw [List.getElem?_map] at hi
      obtain ⟨o, ho, rfl⟩ : ∃ o, (noS n0 nL)[i]? = some o ∧ x = V.str o := by
        cases e : (noS n0 nL)[i]? with
        | none => rw [e] at hi; cases hi
        | some o => rw [e] at hi; exact ⟨o, rfl, (Option.some.inj hi).symm⟩
      have hDa := s0 _ _ (same_new (o := .lst ((noS n0 nL).map V.str)) hL _ _ hD1)
      refine ⟨rfl, ?_⟩
      refine ⟨_, rfl, _, rfl, D, _, rfl, .inl (SqL.of hDa), rfl, flat_strs, _, rfl, ?_⟩
      show if (!inV (.str o) ((M.map (·.1)).map V.str)) = true then _ else _
      rw [inV_strs, take_snoc ho, List.filter_append]
      by_cases h : o ∈ M.map (·.1)
      · rw [if_neg (by simp [h]), List.filter_cons_of_neg (by simp [h]), List.filter_nil, List.append_nil]
        exact ⟨s0, hOa⟩
      · rw [if_pos (by simp [h]), List.filter_cons_of_pos (by simp [h]), List.filter_nil, List.map_append]
        refine ⟨_, rfl, _, hOa, ?_, s0.put hO, upd_same⟩
        rw [List.length_map]
        refine Nat.lt_of_le_of_lt (Nat.le_trans (List.length_filter_le _ _) ?_) (by decide : 7 < sizeLine)
        rw [List.length_take]
        exact Nat.min_le_right _ _
    rintro H2 ⟨s3, hO2⟩
    rw [show ((noS n0 nL).take ((noS n0 nL).map V.str).length) = noS n0 nL from List.take_of_length_le (by rw [List.length_map]; exact Nat.le_refl _)] at hO2
    have s4 := s2.trans s3
    have hD2 := s3 _ _ (same_new (o := .lst ((noS n0 nL).map V.str)) hL _ _ hD1)
    change H2 O = some (.lst ((oddS (M.map (·.1)) n0 nL).map V.str)) at hO2
    have odd0 : (⟨#[]⟩ : Str) ∈ oddS (M.map (·.1)) n0 nL := List.mem_filter.mpr ⟨List.mem_cons_self .., by simp [hM.ne]⟩
    have oddn : 0 < (oddS (M.map (·.1)) n0 nL).length := List.length_pos_of_mem odd0
    have odd7 : (oddS (M.map (·.1)) n0 nL).length ≤ 7 := List.length_filter_le _ _
    have T2 := hT.same s4
    have nD := hT.ne hD
    have nO := hT.ne ((s2.trans (Same.refl _)).free hO)
    refine ⟨_, rfl, _, rfl, _, rfl, _, _, rfl, .inl ⟨_, SqL.of hD2, rfl⟩, t, hh, _, rfl, ?_, ?_, T2, fun r H3 hr3 r3 T3 => ?_⟩
    · rw [List.length_map, nlen]
      omega
    · rw [List.length_map, nlen]
      omega
    rw [List.length_map, nlen] at hr3
    have hrM : r < M.length := by omega
    obtain ⟨p1, hp1⟩ : ∃ p1, M[r]? = some p1 := ⟨_, List.getElem?_eq_getElem hrM⟩
    have hp1m := List.mem_of_getElem? hp1
    have hD3 := r3 D _ nD.1 nD.2 hD2
    have hO3 := r3 O _ nO.1 nO.2 hO2
    have R3 : Rst t hh H H3 := (Rst.of s4).trans r3
    have W3 := hW.mono (R3.tm hT)
    refine ⟨D, _, _, V.str p1.1, rfl, rfl, SqL.of hD3, atI_nat (by rw [List.getElem?_map, List.getElem?_map, hp1]; rfl), ?_⟩
    -- the names that are none
    refine ⟨fun σ' H' => ∃ x3, σ' = [some (.ref t), some (.ref a), some (.ref D), x3, none, some (.ref L), some (.ref O), some (.str p1.1), none, none, none, none, none, none] ∧ Same H3 H', ?_, ?_⟩
    · refine ⟨_, rfl, O, rfl, ⟨_, SqL.of hO3⟩, for_list (K := K) (a := O) (xs := (oddS (M.map (·.1)) n0 nL).map V.str) (fun i σ' H' => ∃ x3, σ' = [some (.ref t), some (.ref a), some (.ref D), x3, none, some (.ref L), some (.ref O), some (.str p1.1), none, none, none, none, none, none] ∧ Same H3 H') ?_ ?_ ?_ ?_⟩
      · exact ⟨_, rfl, Same.refl H3⟩
      · rintro i σ' H' _ ⟨_, _, s0⟩
        exact SqL.of (s0 _ _ hO3)
      · rintro i x σ' H' hi ⟨x3, rfl, s0⟩
        rw [List.getElem?_map] at hi
        obtain ⟨o, ho, rfl⟩ : ∃ o, (oddS (M.map (·.1)) n0 nL)[i]? = some o ∧ x = V.str o := by
          cases e : (oddS (M.map (·.1)) n0 nL)[i]? with
          | none => rw [e] at hi; cases hi
          | some o => rw [e] at hi; exact ⟨o, rfl, (Option.some.inj hi).symm⟩
        refine ⟨_, rfl, _, rfl, 0, _, M, ys, d, o, ⟨#[]⟩, rfl, W3.mono (Tm.of s0), .inl ⟨rfl, odd_not (List.mem_of_getElem? ho)⟩, fun H5 s5 => ⟨_, rfl, iteF ⟨_, rfl, s0.trans s5⟩⟩⟩
      · rintro σ' H' ⟨x3, rfl, s0⟩
        exact ⟨x3, rfl, s0⟩
    rintro σ3 H4 ⟨x3, rfl, s5⟩
    have T4 := T3.same s5
    have R4 : Rst t hh H H4 := R3.trans (Rst.of s5)
    have hD4 := s5 _ _ hD3
    have hO4 := s5 _ _ hO3
    refine fun tb htb => ?_
    have nT := T4.ne htb
    have st := same_new (o := .dK []) htb
    refine ⟨fun σ' H' => ∃ x3 x4, σ' = [some (.ref t), some (.ref a), some (.ref D), x3, x4, some (.ref L), some (.ref O), some (.str p1.1), some (.ref tb), none, none, none, none, none] ∧ Same H4 H' ∧ H' tb = some (.dK (tabOf M ys)), ?_, ?_⟩
    · have tmt := (R4.trans (Rst.of st)).tm hT
      refine ⟨_, rfl, a, _, _, _, rfl, rfl, tmt.sqT h1, rfl, b, rfl, ⟨_, tmt.sqT h2⟩, for_tup (K := K) (a := b) (xs := xs) (fun i σ' H' => ∃ x3 x4, σ' = [some (.ref t), some (.ref a), some (.ref D), x3, x4, some (.ref L), some (.ref O), some (.str p1.1), some (.ref tb), none, none, none, none, none] ∧ Same H4 H' ∧ H' tb = some (.dK (tabOf (M.take i) (ys.take i)))) ?_ ?_ ?_ ?_⟩
      · exact ⟨_, _, rfl, st, upd_same⟩
      · rintro i σ' H' _ ⟨_, _, _, s0, _⟩
        exact ((R4.tm hT).trans (Tm.of s0)).sqT h2
      · rintro i x σ' H' hi ⟨x3, x4, rfl, s0, ht'⟩
        obtain ⟨a', p, y, rfl, hp, hy, hs, hf⟩ := h3.get hi
        refine ⟨a', _, rfl, ((R4.tm hT).trans (Tm.of s0)).sqT hs, rfl, _, _, rfl, _, _, rfl, rfl, ?_⟩
        refine ⟨_, rfl, _, rfl, _, rfl, tb, _, rfl, DPut.k (k := .inr p.1) ht' (Nat.lt_of_le_of_lt (Nat.le_trans tab_len (by rw [List.length_take]; exact Nat.min_le_right _ _)) (Nat.lt_of_le_of_lt hM.len (by decide))), ?_⟩
        rw [tab_put hp hy hM.nd]
        exact ⟨_, _, rfl, s0.put htb, upd_same⟩
      · rintro σ' H' ⟨x3, x4, rfl, s0, ht'⟩
        have e1 : M.take xs.length = M := List.take_of_length_le (by rw [lM]; exact Nat.le_refl _)
        have e2 : ys.take xs.length = ys := List.take_of_length_le (by rw [lM, h3.len.2]; exact Nat.le_refl _)
        rw [e1, e2] at ht'
        exact ⟨x3, x4, rfl, s0, ht'⟩
    rintro σ4 H5 ⟨x3', x4', rfl, s6, htb5⟩
    have T5 := T4.same s6
    have R5 : Rst t hh H H5 := R4.trans (Rst.of s6)
    have hD5 := s6 _ _ hD4
    have hO5 := s6 _ _ hO4
    have ol1 : ((oddS (M.map (·.1)) n0 nL).map V.str).length = (oddS (M.map (·.1)) n0 nL).length := List.length_map ..
    have oddAt : ∀ r : Nat, (r : Int) < ((((oddS (M.map (·.1)) n0 nL).map V.str).length : Nat) : Int) → ∃ o, o ∈ oddS (M.map (·.1)) n0 nL ∧ atI ((oddS (M.map (·.1)) n0 nL).map V.str) (r : Int) = some (.str o) := fun r h => by
      have hr : r < (oddS (M.map (·.1)) n0 nL).length := by omega
      exact ⟨_, List.getElem_mem hr, atI_nat (by rw [List.getElem?_map, List.getElem?_eq_getElem hr]; rfl)⟩
    refine ⟨_, rfl, _, rfl, (by show 2 ≤ sizeLine; decide), fun t1 ht1 => ?_⟩
    have s7 := same_new (o := .tup [V.str p1.1, V.str p1.1]) ht1
    have T6 := T5.same s7
    have b1 : Bad K (upd H5 t1 (.tup [.str p1.1, .str p1.1])) M (.ref t1) := ⟨p1.1, p1.1, td_dart (SqT.of upd_same), fun z => (hM.far z).2.2 rfl⟩
    refine ⟨_, rfl, _, rfl, _, rfl, _, rfl, _, _, rfl, .inl ⟨_, SqL.of (s7 _ _ hO5), rfl⟩, t, hh, _, rfl, by omega, by omega, T6, fun r2 H6 hr2 r6 T7 => ?_⟩
    obtain ⟨o2, ho2, ha2⟩ := oddAt r2 hr2
    have hO6 := r6 O _ nO.1 nO.2 (s7 _ _ hO5)
    refine ⟨O, _, _, V.str o2, rfl, rfl, SqL.of hO6, ha2, (by show 2 ≤ sizeLine; decide), fun t2 ht2 => ?_⟩
    have s8 := same_new (o := .tup [V.str p1.1, V.str o2]) ht2
    have T8 := T7.same s8
    have b2 : Bad K (upd H6 t2 (.tup [.str p1.1, .str o2])) M (.ref t2) := ⟨p1.1, o2, td_dart (SqT.of upd_same), fun z => odd_not ho2 (hM.far z).1⟩
    refine ⟨_, rfl, _, rfl, _, rfl, _, _, rfl, .inl ⟨_, SqL.of (s8 _ _ hO6), rfl⟩, t, hh, _, rfl, by omega, by omega, T8, fun r3' H7 hr3' r7 T9 => ?_⟩
    obtain ⟨o3, ho3, ha3⟩ := oddAt r3' hr3'
    have hO7 := r7 O _ nO.1 nO.2 (s8 _ _ hO6)
    refine ⟨O, _, _, V.str o3, rfl, rfl, SqL.of hO7, ha3, _, rfl, (by show 2 ≤ sizeLine; decide), fun t3 ht3 => ?_⟩
    have s9 := same_new (o := .tup [V.str o3, V.str p1.1]) ht3
    have T10 := T9.same s9
    have b3 : Bad K (upd H7 t3 (.tup [.str o3, .str p1.1])) M (.ref t3) := ⟨o3, p1.1, td_dart (SqT.of upd_same), fun z => odd_not ho3 (hM.far z).2.1⟩
    obtain ⟨o4, ho4, ha4⟩ := oddAt 0 (by omega)
    refine ⟨_, rfl, O, _, _, V.str o4, rfl, rfl, SqL.of (s9 _ _ hO7), ha4, _, rfl, O, _, _, V.str o4, rfl, rfl, SqL.of (s9 _ _ hO7), ha4, (by show 2 ≤ sizeLine; decide), fun t4 ht4 => ?_⟩
    have s10 := same_new (o := .tup [V.str o4, V.str o4]) ht4
    have T11 := T10.same s10
    refine ⟨(by show 4 ≤ sizeLine; decide), fun pl hpl => ?_⟩
    have s11 := same_new (o := .lst [V.ref t1, V.ref t2, V.ref t3, V.ref t4]) hpl
    have T12 := T11.same s11
    have nP := T11.ne hpl
    -- the heap with the pairs
    have tm7 := (r7.tm T8).trans (Tm.of (s9.trans (s10.trans s11)))
    have tm6 := ((r6.tm T6).trans (Tm.of s8)).trans tm7
    have bads : ∀ z ∈ [V.ref t1, V.ref t2, V.ref t3, V.ref t4], Bad K (upd (upd (upd H7 t3 (.tup [.str o3, .str p1.1])) t4 (.tup [.str o4, .str o4])) pl (.lst [.ref t1, .ref t2, .ref t3, .ref t4])) M z := fun z hz => by
      simp only [List.mem_cons, List.not_mem_nil, or_false] at hz
      rcases hz with rfl | rfl | rfl | rfl
      · exact b1.mono tm6
      · exact b2.mono tm7
      · exact b3.mono (Tm.of (s10.trans s11))
      · exact Bad.mono (Tm.of s11) ⟨o4, o4, td_dart (SqT.of upd_same), fun z => odd_not ho4 (hM.far z).1⟩
    have R7 : Rst t hh H5 (upd (upd (upd H7 t3 (.tup [.str o3, .str p1.1])) t4 (.tup [.str o4, .str o4])) pl (.lst [.ref t1, .ref t2, .ref t3, .ref t4])) := (Rst.of s7).trans (r6.trans ((Rst.of s8).trans (r7.trans (Rst.of (s9.trans (s10.trans s11))))))
    have hpl8 : (upd (upd (upd H7 t3 (.tup [.str o3, .str p1.1])) t4 (.tup [.str o4, .str o4])) pl (.lst [.ref t1, .ref t2, .ref t3, .ref t4])) pl = some (.lst [.ref t1, .ref t2, .ref t3, .ref t4]) := upd_same
    generalize (upd (upd (upd H7 t3 (.tup [.str o3, .str p1.1])) t4 (.tup [.str o4, .str o4])) pl (.lst [.ref t1, .ref t2, .ref t3, .ref t4])) = H8 at *
    have hD8 := R7 D _ nD.1 nD.2 hD5
    have htb8 := R7 tb _ nT.1 nT.2 htb5
    have R8 := R5.trans R7
    have W8 := hW.mono (R8.tm hT)
    have hTab := W8.1.tab (Tm.refl _) (t := tb) hM.nd htb8
    have hjy : r < ys.length := by
      rw [hW.1.ylen]
      exact hrM
    have hy : ys[r]? = some ys[r] := List.getElem?_eq_getElem hjy
    have hF8 : FT H8 ys[r] (p1.2.map V.str) := hTab.2.2.2 r _ _ hp1 hy
    have dg : ∀ {H' : Hp}, H' tb = some (.dK (tabOf M ys)) → DGet H' tb (kV (.inr p1.1)) (some (.ref ys[r])) := fun {H'} e => by
      rw [← tab_val hM.nd hp1 hy]
      exact DGet.k e
    have hways : waysOf M p1.1 = p1.2 := ways_at hM.nd hp1
    refine ⟨_, rfl, D, rfl, ⟨_, SqL.of hD8⟩, fun F hF => lc_list (K := K) (a := D) (xs := (M.map (·.1)).map V.str) (fun i H' => Same H8 H' ∧ ∃ acc, H' F = some (.lst acc) ∧ (∀ z ∈ acc, Bad K H' M z) ∧ acc.length ≤ i) ?_ ?_ ?_ ?_⟩
    · exact ⟨same_new hF, [], upd_same, fun z hz => (nomatch hz), Nat.le_refl _⟩
    · rintro i H' _ ⟨s0, _⟩
      exact SqL.of (s0 _ _ hD8)
    · rintro i x H' hi ⟨s0, acc, hFa, hbad, hlen⟩
      have hi40 : i < M.length := by
        have := (List.getElem?_eq_some_iff.mp hi).1
        rw [List.length_map, List.length_map] at this
        exact this
      rw [List.getElem?_map] at hi
      obtain ⟨o, ho, rfl⟩ : ∃ o, (M.map (·.1))[i]? = some o ∧ x = V.str o := by
        cases e : (M.map (·.1))[i]? with
        | none => rw [e] at hi; cases hi
        | some o => rw [e] at hi; exact ⟨o, rfl, (Option.some.inj hi).symm⟩
      refine ⟨rfl, ?_⟩
      refine ⟨_, rfl, _, rfl, rfl, _, rfl, ?_⟩
      refine ite2 (fun hne => ?_) (fun _ => iteF ⟨s0, acc, hFa, hbad, Nat.le_succ_of_le hlen⟩)
      refine ⟨_, rfl, _, rfl, _, rfl, tb, .ref ys[r], rfl, dg (s0 _ _ htb8), ys[r], p1.2.map V.str, rfl, .inr ((hF8.mono (Tm.of s0)).sqT), rfl, flat_strs, _, rfl, ?_⟩
      show if (!inV (.str o) (p1.2.map V.str)) = true then _ else _
      rw [inV_strs]
      by_cases h : o ∈ p1.2
      · rw [if_neg (by simp [h])]
        exact ⟨s0, acc, hFa, hbad, Nat.le_succ_of_le hlen⟩
      · rw [if_pos (by simp [h])]
        refine ⟨_, rfl, _, rfl, (by show 2 ≤ sizeLine; decide), fun u hu => ?_⟩
        have s3' := same_new (o := .tup [V.str p1.1, V.str o]) hu
        refine ⟨acc, s3' _ _ hFa, Nat.lt_of_le_of_lt (by omega : acc.length ≤ 40) (by decide), (s0.trans s3').put hF, acc ++ [.ref u], upd_same, fun z hz => ?_, ?_⟩
        · have tm := (Tm.of s3').trans (Tm.lst (o := .lst (acc ++ [V.ref u])) (s3' _ _ hFa))
          rcases List.mem_append.mp hz with hz | hz
          · exact (hbad z hz).mono tm
          · rw [List.mem_singleton.mp hz]
            exact Bad.mono (Tm.lst (s3' _ _ hFa)) ⟨p1.1, o, td_dart (SqT.of upd_same), by rw [hways]; exact h⟩
        · rw [List.length_append]
          exact Nat.succ_le_succ hlen
    rintro H9 ⟨s12, fa, hF9, hbadF, hlenF⟩
    have nF := T12.ne hF
    have T13 := T12.same s12
    have hlenF' : fa.length ≤ 40 := by
      rw [List.length_map, nlen] at hlenF
      omega
    refine ⟨fun σ' H' => ∃ x3 x4 u v, σ' = [some (.ref t), some (.ref a), some (.ref D), x3, x4, some (.ref L), some (.ref O), some (.str p1.1), some (.ref tb), some (.ref pl), some (.ref F), u, v, none] ∧ Rst t hh H9 H' ∧ Tin H' t hh, ?_, ?_⟩
    · refine ⟨_, rfl, _, rfl, _, rfl, t, hh, F, fa, rfl, T13, SqL.of hF9, by omega, fun q1 H10 zs hperm r10 T14 hq0 hq1 => ?_⟩
      refine ⟨_, rfl, q1, zs, rfl, SqL.of hq1, fun sl hsl => ?_⟩
      have s14 := same_new (o := .lst (cutV zs none (some 3))) hsl
      have hpl10 := r10 pl _ nP.1 nP.2 (s12 _ _ hpl8)
      have cut3 : (cutV zs none (some 3)).length ≤ zs.length := cutV_length ..
      have hzl := hperm.length_eq
      refine ⟨pl, sl, _, _, rfl, rfl, s14 _ _ hpl10, upd_same, ?_, fun ct hct => ?_⟩
      · exact Nat.le_trans (Nat.add_le_add_left (Nat.le_trans cut3 (by omega : zs.length ≤ 40)) 4) (by decide)
      have s15 := s14.trans (same_new (o := .lst ([V.ref t1, V.ref t2, V.ref t3, V.ref t4] ++ cutV zs none (some 3))) hct)
      have T15 := T14.same s15
      have tmA := (r10.tm T13).trans (Tm.of s15)
      have allbad : ∀ z ∈ [V.ref t1, V.ref t2, V.ref t3, V.ref t4] ++ cutV zs none (some 3), Bad K (upd (upd H10 sl (.lst (cutV zs none (some 3)))) ct (.lst ([V.ref t1, V.ref t2, V.ref t3, V.ref t4] ++ cutV zs none (some 3)))) M z := fun z hz => by
        rcases List.mem_append.mp hz with hz | hz
        · exact (bads z hz).mono ((Tm.of s12).trans tmA)
        · have hz2 : z ∈ zs := by
            unfold cutV at hz
            exact List.mem_of_mem_drop (List.mem_of_mem_take hz)
          exact (hbadF z (hperm.mem_iff.mp hz2)).mono tmA
      have W15 := W8.mono ((Tm.of s12).trans tmA)
      refine ⟨ct, rfl, ⟨_, SqL.of upd_same⟩, for_list (K := K) (a := ct) (xs := [V.ref t1, V.ref t2, V.ref t3, V.ref t4] ++ cutV zs none (some 3)) (fun i σ' H' => ∃ x3 x4 u v, σ' = [some (.ref t), some (.ref a), some (.ref D), x3, x4, some (.ref L), some (.ref O), some (.str p1.1), some (.ref tb), some (.ref pl), some (.ref F), u, v, none] ∧ Same (upd (upd H10 sl (.lst (cutV zs none (some 3)))) ct (.lst ([V.ref t1, V.ref t2, V.ref t3, V.ref t4] ++ cutV zs none (some 3)))) H') ?_ ?_ ?_ ?_⟩
      · exact ⟨_, _, _, _, rfl, Same.refl _⟩
      · rintro i σ' H' _ ⟨_, _, _, _, _, s0⟩
        exact SqL.of (s0 _ _ upd_same)
      · rintro i x σ' H' hi ⟨x3, x4, u, v, rfl, s0⟩
        obtain ⟨a1, b1', htd, hno⟩ := (allbad x (List.mem_of_getElem? hi)).mono (Tm.of s0)
        obtain ⟨ax, rfl, hs⟩ := td_dart_inv htd
        refine ⟨ax, _, rfl, hs, rfl, _, _, rfl, _, _, rfl, rfl, ?_⟩
        refine ⟨_, rfl, _, rfl, _, rfl, 1, _, M, ys, d, a1, b1', rfl, W15.mono (Tm.of s0), .inr (.inl ⟨rfl, hno⟩), fun H11 s11' => ⟨_, rfl, iteF ?_⟩⟩
        refine ⟨_, rfl, _, rfl, _, rfl, 2, _, M, ys, d, a1, b1', rfl, W15.mono (Tm.of (s0.trans s11')), .inr (.inr ⟨rfl, hno⟩), fun H12 s12' => ⟨_, rfl, iteF ?_⟩⟩
        exact ⟨_, _, _, _, rfl, s0.trans (s11'.trans s12')⟩
      · rintro σ' H' ⟨x3, x4, u, v, rfl, s0⟩
        exact ⟨x3, x4, u, v, rfl, r10.trans (Rst.of (s15.trans s0)), T15.same s0⟩
    rintro σ5 H11 ⟨x3, x4, u, v, rfl, r11, T16⟩
    have R11 := ((R8.trans (Rst.of s12)).trans r11)
    have W11 := hW.mono (R11.tm hT)
    have htb11 : H11 tb = some (.dK (tabOf M ys)) := r11 tb _ nT.1 nT.2 (s12 _ _ htb8)
    have hF11 : FT H11 ys[r] (p1.2.map V.str) := hF8.mono ((Tm.of s12).trans (r11.tm T13))
    have hsT := hF11.sqT (K := K)
    have hpos : 0 < p1.2.length := List.length_pos_iff.mpr (hM.wne p1 hp1m)
    obtain ⟨wL, hwL⟩ : ∃ wL, p1.2[p1.2.length - 1]? = some wL := ⟨_, List.getElem?_eq_getElem (by omega)⟩
    obtain ⟨w0, hw0⟩ : ∃ w0, p1.2[0]? = some w0 := ⟨_, List.getElem?_eq_getElem hpos⟩
    obtain ⟨wk, hwk⟩ : ∃ wk, p1.2[if p1.2.length - 1 = 0 then p1.2.length - 1 else p1.2.length - 1 - 1]? = some wk := ⟨_, List.getElem?_eq_getElem (by split <;> omega)⟩
    refine ⟨_, rfl, _, rfl, tb, .ref ys[r], rfl, dg htb11, _, rfl, ys[r], _, _, V.str wL, rfl, rfl, hsT, atI_neg1 (by rw [List.length_map, List.getElem?_map, hwL]; rfl), ?_⟩
    refine ⟨_, rfl, _, rfl, _, rfl, _, M, ys, d, p1.1, wL, rfl, W11, fun _ => ⟨w0, wk, ⟨r, p1.2.length - 1, p1.2, hp1, hwL, fun m hm e => ?_, ?_, hwk⟩, fun q2 H12 s16 _ hq2 => ?_⟩, fun hno => absurd ?_ hno⟩
    · have := nd_ix (hM.wnd p1 hp1m) e hwL
      omega
    · rw [show p1.2.length - 1 + 1 = p1.2.length by omega, Nat.mod_self]
      exact hw0
    · have hsT2 := (Tm.of s16).sqT hsT
      have htb12 := s16 _ _ htb11
      refine ⟨_, rfl, _, rfl, tb, .ref ys[r], rfl, dg htb12, ys[r], _, _, V.str w0, rfl, rfl, hsT2, atI_nat (j := 0) (by rw [List.getElem?_map, hw0]; rfl), ?_⟩
      refine ⟨_, rfl, _, rfl, tb, .ref ys[r], rfl, dg htb12, ?_⟩
      have fin : ∀ tx, H12 tx = none → spSame K 2 [.ref q2, .ref tx] (upd H12 tx (.tup [.str w0, .str wk])) Q E := fun tx htx => by
        have s17 := same_new (o := .tup [V.str w0, V.str wk]) htx
        refine ⟨_, _, encD (w0, wk), rfl, td_dart (SqT.of (s17 _ _ hq2)), td_dart (SqT.of upd_same), depth_dart _, small_dart _, fun H13 s18 => ?_⟩
        exact q H13 (R11.trans (Rst.of (s16.trans (s17.trans s18)))) (T16.same (s16.trans (s17.trans s18)))
      refine ⟨_, rfl, _, rfl, tb, .ref ys[r], rfl, dg htb12, _, _, rfl, .inr ⟨_, hsT2, rfl⟩, _, _, rfl, rfl, _, rfl, ?_⟩
      refine ite2 (fun h => ?_) (fun h => ?_)
      · have h1 : 1 < p1.2.length := by
          have := of_decide_eq_true h
          rw [List.length_map] at this
          omega
        rw [if_neg (by omega)] at hwk
        refine ⟨_, rfl, _, rfl, tb, .ref ys[r], rfl, dg htb12, _, _, rfl, .inr ⟨_, hsT2, rfl⟩, _, _, rfl, rfl, ys[r], _, _, V.str wk, rfl, rfl, hsT2, ?_, (by show 2 ≤ sizeLine; decide), fun tx htx => fin tx htx⟩
        rw [List.length_map, show ((p1.2.length : Nat) : Int) - 2 = ((p1.2.length - 1 - 1 : Nat) : Int) by omega]
        exact atI_nat (by rw [List.getElem?_map, hwk]; rfl)
      · have h1 : p1.2.length = 1 := by
          have : ¬ 1 < p1.2.length := fun z => h (decide_eq_true (by rw [List.length_map]; omega))
          omega
        rw [if_pos (by omega), show p1.2.length - 1 = 0 by omega] at hwk
        exact ⟨ys[r], _, _, V.str wk, rfl, rfl, hsT2, atI_nat (j := 0) (by rw [List.getElem?_map, hwk]; rfl), (by show 2 ≤ sizeLine; decide), fun tx htx => fin tx htx⟩
    · rw [hways]
      exact List.mem_of_getElem? hwL
end
end K2
namespace K2
open PySem PyProof.Rows L2 HD
/-! ### turning, in plain words -/
def IsNext (M : List Pl) (d e : Str × Str) : Prop := e.1 = d.2 ∧ NextD M d.1 d.2 e.2
theorem next_ex {M : List Pl} (h : MapOk M) {d : Str × Str} (hd : d ∈ darts M) : ∃ e, IsNext M d e ∧ e ∈ darts M := by
  obtain ⟨a, b⟩ := d
  obtain ⟨j, i, ws, hj, hi, hm, _, _⟩ := h.dart hd
  have hlt : (i + 1) % ws.length < ws.length := Nat.mod_lt _ (Nat.lt_of_le_of_lt (Nat.zero_le _) (List.getElem?_eq_some_iff.mp hi).1)
  exact ⟨(b, ws[(i + 1) % ws.length]), ⟨rfl, j, i, ws, hj, hi, hm, List.getElem?_eq_getElem hlt⟩, mem_darts (p := (b, ws)) (List.mem_of_getElem? hj) (List.getElem_mem hlt)⟩
theorem next_fun {M : List Pl} (h : MapOk M) {d e e' : Str × Str} (x : IsNext M d e) (y : IsNext M d e') : e = e' := by
  obtain ⟨e1, e2⟩ := e
  obtain ⟨f1, f2⟩ := e'
  obtain ⟨a, j, i, ws, hj, hi, _, hz⟩ := x
  obtain ⟨b, j', i', ws', hj', hi', _, hz'⟩ := y
  have ej : j = j' := nd_ix (l := M.map (·.1)) h.nd (by rw [List.getElem?_map, hj]; rfl) (by rw [List.getElem?_map, hj']; rfl)
  subst ej
  rw [hj] at hj'
  cases hj'
  have ei : i = i' := nd_ix (h.wnd _ (List.mem_of_getElem? hj)) hi hi'
  subst ei
  rw [hz] at hz'
  cases hz'
  dsimp only at a b
  rw [a, b]
theorem next_inj {M : List Pl} (h : MapOk M) {d d' e : Str × Str} (x : IsNext M d e) (y : IsNext M d' e) : d = d' := by
  obtain ⟨a1, b1⟩ := d
  obtain ⟨a2, b2⟩ := d'
  obtain ⟨a, j, i, ws, hj, hi, _, hz⟩ := x
  obtain ⟨b, j', i', ws', hj', hi', _, hz'⟩ := y
  dsimp only at a b hj hj' hi hi' hz hz'
  have eb : b1 = b2 := a.symm.trans b
  subst eb
  have ej : j = j' := nd_ix (l := M.map (·.1)) h.nd (by rw [List.getElem?_map, hj]; rfl) (by rw [List.getElem?_map, hj']; rfl)
  subst ej
  rw [hj] at hj'
  cases hj'
  have hl := (List.getElem?_eq_some_iff.mp hi).1
  have hl' := (List.getElem?_eq_some_iff.mp hi').1
  have em := nd_ix (h.wnd _ (List.mem_of_getElem? hj)) hz hz'
  have ei : i = i' := by
    rcases Nat.lt_or_ge (i + 1) ws.length with h1 | h1 <;> rcases Nat.lt_or_ge (i' + 1) ws.length with h2 | h2
    · rw [Nat.mod_eq_of_lt h1, Nat.mod_eq_of_lt h2] at em
      omega
    · rw [Nat.mod_eq_of_lt h1, show i' + 1 = ws.length by omega, Nat.mod_self] at em
      omega
    · rw [Nat.mod_eq_of_lt h2, show i + 1 = ws.length by omega, Nat.mod_self] at em
      omega
    · omega
  subst ei
  rw [hi] at hi'
  cases hi'
  rfl
/-- a lap: each dart's next one stands behind it, the last one's is the first -/
structure FaceOk (M : List Pl) (f : List (Str × Str)) : Prop where
  ne : f ≠ []
  mem : ∀ d ∈ f, d ∈ darts M
  lap : ∀ (i : Nat) (d e : Str × Str), f[i]? = some d → f[(i + 1) % f.length]? = some e → IsNext M d e
theorem FaceOk.turn {M : List Pl} {f : List (Str × Str)} (h : FaceOk M f) {k : Nat} (hk : k < f.length) : FaceOk M (f.drop k ++ f.take k) := by
  have hl : (f.drop k ++ f.take k).length = f.length := by
    rw [List.length_append, List.length_drop, List.length_take]
    omega
  have at_ : ∀ i, i < f.length → (f.drop k ++ f.take k)[i]? = f[(k + i) % f.length]? := fun i hi => by
    by_cases c : i < f.length - k
    · rw [List.getElem?_append_left (by rw [List.length_drop]; exact c), List.getElem?_drop, Nat.mod_eq_of_lt (by omega)]
    · rw [List.getElem?_append_right (by rw [List.length_drop]; omega), List.length_drop, List.getElem?_take_of_lt (by omega)]
      rw [show (k + i) = (i - (f.length - k)) + f.length by omega, Nat.add_mod_right, Nat.mod_eq_of_lt (by omega)]
  refine ⟨fun e => ?_, fun d hd => ?_, fun i d e hd he => ?_⟩
  · have := congrArg List.length e
    rw [hl, List.length_nil] at this
    omega
  · rcases List.mem_append.mp hd with z | z
    · exact h.mem d (List.mem_of_mem_drop z)
    · exact h.mem d (List.mem_of_mem_take z)
  · have hi : i < f.length := by rw [← hl]; exact (List.getElem?_eq_some_iff.mp hd).1
    rw [at_ i hi] at hd
    rw [hl, at_ _ (Nat.mod_lt _ (by omega))] at he
    refine h.lap ((k + i) % f.length) d e hd ?_
    rw [← he]
    congr 1
    rw [Nat.add_mod_mod, Nat.mod_add_mod, Nat.add_assoc]
/-- what has been gone: with a dart its next one, and the other way round -/
def Closed (M : List Pl) (S : List (Str × Str)) : Prop := ∀ d e, d ∈ darts M → IsNext M d e → (d ∈ S ↔ e ∈ S)
/-- a walk from d0 that stands before c -/
structure Going (M : List Pl) (S W : List (Str × Str)) (d0 c : Str × Str) : Prop where
  nd : (S ++ W).Nodup
  mem : ∀ d ∈ S ++ W, d ∈ darts M
  cm : c ∈ darts M
  cl : Closed M S
  chain : ∀ (i : Nat) (d e : Str × Str), W[i]? = some d → W[i + 1]? = some e → IsNext M d e
  first : W = [] → c = d0
  last : ∀ d, W[W.length - 1]? = some d → IsNext M d c ∧ W[0]? = some d0
theorem Going.step {M : List Pl} (h : MapOk M) {S W : List (Str × Str)} {d0 c c' : Str × Str} (g : Going M S W d0 c) (hc : c ∉ S ++ W) (hn : IsNext M c c') (hm : c' ∈ darts M) : Going M S (W ++ [c]) d0 c' where
  nd := by
    rw [← List.append_assoc, List.nodup_append]
    refine ⟨g.nd, by simp, fun a ha b hb e => ?_⟩
    rw [List.mem_singleton.mp hb] at e
    exact hc (e ▸ ha)
  mem := fun d hd => by
    rw [← List.append_assoc] at hd
    rcases List.mem_append.mp hd with z | z
    · exact g.mem d z
    · rw [List.mem_singleton.mp z]
      exact g.cm
  cm := hm
  cl := g.cl
  chain := fun i d e hd he => by
    have hi : i + 1 < (W ++ [c]).length := (List.getElem?_eq_some_iff.mp he).1
    rw [List.length_append, List.length_singleton] at hi
    rw [List.getElem?_append_left (by omega)] at hd
    by_cases hj : i + 1 < W.length
    · rw [List.getElem?_append_left hj] at he
      exact g.chain i d e hd he
    · rw [List.getElem?_append_right (by omega), show i + 1 - W.length = 0 by omega] at he
      cases he
      exact (g.last d (by rw [show W.length - 1 = i by omega]; exact hd)).1
  first := fun e => by simp at e
  last := fun d hd => by
    rw [List.length_append, List.length_singleton, Nat.add_sub_cancel, List.getElem?_append_right (Nat.le_refl _), Nat.sub_self] at hd
    cases hd
    refine ⟨hn, ?_⟩
    cases W with
    | nil =>
      rw [g.first rfl]
      rfl
    | cons a r =>
      have := (g.last _ (List.getElem?_eq_getElem (by simp : (a :: r).length - 1 < (a :: r).length))).2
      exact this
theorem Going.done {M : List Pl} (h : MapOk M) {S W : List (Str × Str)} {d0 c : Str × Str} (g : Going M S W d0 c) (hc : c ∈ S ++ W) (hW : W ≠ []) : FaceOk M W ∧ Closed M (S ++ W) ∧ d0 ∈ W := by
  have hpos : 0 < W.length := List.length_pos_iff.mpr hW
  obtain ⟨l, hl⟩ : ∃ l, W[W.length - 1]? = some l := ⟨_, List.getElem?_eq_getElem (by omega)⟩
  obtain ⟨hn, h0⟩ := g.last l hl
  have lm : l ∈ W := List.mem_of_getElem? hl
  have ld : l ∈ darts M := g.mem l (List.mem_append_right _ lm)
  have ndW := (List.nodup_append.mp g.nd).2.1
  have hcW : c ∈ W := by
    rcases List.mem_append.mp hc with z | z
    · have := (g.cl l c ld hn).mpr z
      exact absurd rfl ((List.nodup_append.mp g.nd).2.2 l this l lm)
    · exact z
  obtain ⟨i, hi⟩ := List.mem_iff_getElem?.mp hcW
  have hic : c = d0 := by
    cases i with
    | zero =>
      rw [h0] at hi
      exact (Option.some.inj hi).symm
    | succ i =>
      have hlt := (List.getElem?_eq_some_iff.mp hi).1
      obtain ⟨p, hp⟩ : ∃ p, W[i]? = some p := ⟨_, List.getElem?_eq_getElem (by omega)⟩
      have e := next_inj h (g.chain i p c hp hi) hn
      rw [e] at hp
      have := nd_ix ndW hp hl
      omega
  subst hic
  refine ⟨⟨hW, fun d hd => g.mem d (List.mem_append_right _ hd), fun i d e hd he => ?_⟩, fun d e hd hn' => ?_, List.mem_of_getElem? h0⟩
  · have hlt := (List.getElem?_eq_some_iff.mp hd).1
    by_cases hj : i + 1 < W.length
    · rw [Nat.mod_eq_of_lt hj] at he
      exact g.chain i d e hd he
    · have e1 : i = W.length - 1 := by omega
      rw [show i + 1 = W.length by omega, Nat.mod_self, h0] at he
      cases he
      rw [e1, hl] at hd
      cases hd
      exact hn
  · rw [List.mem_append, List.mem_append, g.cl d e hd hn']
    constructor
    · rintro (z | z)
      · exact .inl z
      · obtain ⟨i, hi⟩ := List.mem_iff_getElem?.mp z
        have hlt := (List.getElem?_eq_some_iff.mp hi).1
        by_cases hj : i + 1 < W.length
        · obtain ⟨p, hp⟩ : ∃ p, W[i + 1]? = some p := ⟨_, List.getElem?_eq_getElem hj⟩
          rw [next_fun h hn' (g.chain i d p hi hp)]
          exact .inr (List.mem_of_getElem? hp)
        · rw [show i = W.length - 1 by omega, hl] at hi
          cases hi
          rw [next_fun h hn' hn]
          exact .inr (List.mem_of_getElem? h0)
    · rintro (z | z)
      · exact .inl z
      · obtain ⟨i, hi⟩ := List.mem_iff_getElem?.mp z
        have hlt := (List.getElem?_eq_some_iff.mp hi).1
        cases i with
        | zero =>
          rw [h0] at hi
          cases hi
          rw [next_inj h hn' hn]
          exact .inr lm
        | succ i =>
          obtain ⟨p, hp⟩ : ∃ p, W[i]? = some p := ⟨_, List.getElem?_eq_getElem (by omega)⟩
          rw [next_inj h hn' (g.chain i p e hp hi)]
          exact .inr (List.mem_of_getElem? hp)
/-- no more than there are -/
theorem nodup_le {α : Type} [DecidableEq α] : ∀ {l m : List α}, l.Nodup → (∀ x ∈ l, x ∈ m) → l.length ≤ m.length
  | [], _, _, _ => Nat.zero_le _
  | x :: xs, m, nd, h => by
    have nd' := List.nodup_cons.mp nd
    have hx : x ∈ m := h x (List.mem_cons_self ..)
    have ih := nodup_le (l := xs) (m := m.erase x) nd'.2 fun y hy => (List.mem_erase_of_ne (fun (e : y = x) => nd'.1 (by rw [← e]; exact hy))).mpr (h y (List.mem_cons_of_mem _ hy))
    rw [List.length_erase_of_mem hx] at ih
    have := List.length_pos_of_mem hx
    rw [List.length_cons]
    omega
end K2
namespace K2
open PySem PyProof.Rows L2 HD
open PySem.W (alike alikeAll)
theorem eqv_dart (d e : Str × Str) : PyData.eqv (encD d) (encD e) = decide (d = e) := by
  obtain ⟨a, b⟩ := d
  obtain ⟨c, f⟩ := e
  simp only [HD.encD, PyData.eqv, PyData.eqvAll, Bool.and_true]
  by_cases h1 : a = c <;> by_cases h2 : b = f <;> simp [h1, h2]
/-- a dart's names may be spelled -/
def OkD (d : Str × Str) : Prop := PyData.strOk d.1 = true ∧ PyData.strOk d.2 = true
theorem lay_dart {d : Str × Str} (h : OkD d) : (encD d).canLay0 = true := by simp [HD.encD, PyData.canLay0, PyData.canLayAll0, h.1, h.2]
theorem lay_darts : ∀ {ds : List (Str × Str)}, (∀ d ∈ ds, OkD d) → PyData.canLayAll0 (ds.map encD) = true
  | [], _ => rfl
  | d :: ds, h => by
    show ((encD d).canLay0 && PyData.canLayAll0 (ds.map encD)) = true
    rw [lay_darts fun e he => h e (List.mem_cons_of_mem _ he), lay_dart (h d (List.mem_cons_self ..))]
    rfl
theorem shaped_darts {ds : List (Str × Str)} (h : ∀ d ∈ ds, OkD d) : SeqAt.shaped (.list (ds.map encD)) = true := by
  unfold SeqAt.shaped
  rw [Bool.and_eq_true]
  refine ⟨lay_darts h, decide_eq_true ?_⟩
  show PyData.depthAll _ + 1 ≤ 64
  have : PyData.depthAll (ds.map encD) ≤ 2 := depthAll_le fun d hd => by
    obtain ⟨x, _, rfl⟩ := List.mem_map.mp hd
    exact depth_dart x
  omega
theorem shaped_dart {d : Str × Str} (h : OkD d) : SeqAt.shaped (encD d) = true := by
  unfold SeqAt.shaped
  rw [lay_dart h, Bool.true_and]
  exact decide_eq_true (Nat.le_trans (depth_dart d) (by decide))
theorem MapOk.okd {M : List Pl} (h : MapOk M) {d : Str × Str} (hd : d ∈ darts M) : OkD d := by
  obtain ⟨a, b⟩ := d
  obtain ⟨p, hp, rfl, hb⟩ := dart_mem hd
  obtain ⟨q, hq, rfl, _⟩ := h.sym p hp b hb
  exact ⟨h.sok p hp, h.sok q hq⟩
theorem alike_dart (d e : Str × Str) : alike (encD d) (encD e) = true := by simp [HD.encD, alike, alikeAll]
theorem alike_darts : ∀ xs ys : List (Str × Str), alikeAll (xs.map encD) (ys.map encD) = true
  | [], _ => by simp [alikeAll]
  | _ :: _, [] => by simp [alikeAll]
  | x :: xs, y :: ys => by
    have ih := alike_darts xs ys
    simp only [List.map_cons, alikeAll, alike_dart, ih, Bool.and_self]
def faceD (f : List (Str × Str)) : PyData := .tuple (f.map encD)
theorem alike_face (f g : List (Str × Str)) : alike (faceD f) (faceD g) = true := by
  unfold faceD alike
  exact alike_darts f g
/-- the keys of the darts gone -/
def keyD (d : Str × Str) : List Key := [.inr d.1, .inr d.2]
def doneOf (ds : List (Str × Str)) : List (List Key × V) := ds.map fun d => (keyD d, .bl true)
theorem keyD_inj {d e : Str × Str} (h : keyD d = keyD e) : d = e := by
  obtain ⟨a, b⟩ := d
  obtain ⟨c, f⟩ := e
  unfold keyD at h
  injection h with h1 h2
  injection h2 with h2 _
  cases h1
  cases h2
  rfl
theorem done_val {ds : List (Str × Str)} {d : Str × Str} : (valV (doneOf ds) (keyD d)).isSome = decide (d ∈ ds) := by
  induction ds with
  | nil => simp [doneOf, valV_nil]
  | cons e es ih =>
    show (valV ((keyD e, V.bl true) :: doneOf es) (keyD d)).isSome = _
    by_cases h : e = d
    · subst h
      rw [valV_pos rfl]
      simp
    · rw [valV_neg (fun z => h (keyD_inj z)), ih]
      have h2 : d ≠ e := fun z => h z.symm
      simp [h2]
theorem done_put {ds : List (Str × Str)} {d : Str × Str} (h : d ∉ ds) : putK (doneOf ds) (keyD d) (.bl true) = doneOf (ds ++ [d]) := by
  have hv : valV (doneOf ds) (keyD d) = none := by
    have := done_val (ds := ds) (d := d)
    rw [decide_eq_false h] at this
    cases e : valV (doneOf ds) (keyD d) with
    | none => rfl
    | some v => rw [e] at this; cases this
  rw [putK_new _ hv]
  unfold doneOf
  rw [List.map_append]
  rfl
/-- the table of lists -/
def TabL (H : Hp) (t : Addr) (M : List Pl) (ls : List Addr) : Prop := H t = some (.dK (tabOf M ls)) ∧ ls.length = M.length ∧ ∀ (i : Nat) (p : Pl) (l : Addr), M[i]? = some p → ls[i]? = some l → H l = some (.lst (p.2.map V.str))
theorem TabL.same {H H' : Hp} {t : Addr} {M : List Pl} {ls : List Addr} (h : TabL H t M ls) (e : Same H H') : TabL H' t M ls := ⟨e _ _ h.1, h.2.1, fun i p l hp hl => e _ _ (h.2.2 i p l hp hl)⟩
/-- what the laps so far leave -/
structure FB (K : PySem.W.Frag) (H1 H' : Hp) (M : List Pl) (dn fc : Addr) (S : List (Str × Str)) (fs : List (List (Str × Str))) (zs : List V) (gone : List (Str × Str)) : Prop where
  same : Same H1 H'
  hd : H' dn = some (.dT (doneOf S))
  hf : H' fc = some (.lst zs)
  td : TdAll K H' zs (fs.map faceD)
  ne : S = [] ∨ fs ≠ []
  ok : ∀ f ∈ fs, FaceOk M f
  len : fs.length ≤ S.length
  flen : ∀ f ∈ fs, f.length ≤ 1000
  cl : Closed M S
  nd : S.Nodup
  sub : ∀ d ∈ S, d ∈ darts M
  all : ∀ d ∈ gone, d ∈ S
theorem FB.dn {K : PySem.W.Frag} {H1 H' : Hp} {M : List Pl} {dn fc : Addr} {S : List (Str × Str)} {fs : List (List (Str × Str))} {zs : List V} {g : List (Str × Str)} (h : FB K H1 H' M dn fc S fs zs g) {H2 : Hp} (e : Same H' H2) : FB K H1 H2 M dn fc S fs zs g :=
  { h with same := h.same.trans e, hd := e _ _ h.hd, hf := e _ _ h.hf, td := h.td.mono (Tm.of e) }
theorem Same.dT {H : Hp} {a : Addr} {kvs : List (List Key × V)} {o : HO} (h : H a = some (.dT kvs)) : Tm H (upd H a o) := Tm.dT h
theorem td_faces {K : PySem.W.Frag} {H : Hp} : ∀ L : List (V × List (Str × Str)), (∀ x ∈ L, Td K H x.1 (faceD x.2)) → TdAll K H (L.map (·.1)) ((L.map (·.2)).map faceD)
  | [], _ => .nil
  | x :: L, h => .cons (h x (List.mem_cons_self ..)) (td_faces L fun y hy => h y (List.mem_cons_of_mem _ hy))
theorem td_zip {K : PySem.W.Frag} {H : Hp} : ∀ {zs : List V} {fs : List (List (Str × Str))}, TdAll K H zs (fs.map faceD) → (∀ x ∈ zs.zip fs, Td K H x.1 (faceD x.2)) ∧ (zs.zip fs).map (·.1) = zs ∧ (zs.zip fs).map (·.2) = fs
  | _, [], h => by
    cases h
    exact ⟨fun x hx => (nomatch hx), rfl, rfl⟩
  | _, f :: fs, h => by
    cases h with
    | cons h t =>
      obtain ⟨a, b, c⟩ := td_zip t
      refine ⟨fun x hx => ?_, by rw [List.zip_cons_cons, List.map_cons, b], by rw [List.zip_cons_cons, List.map_cons, c]⟩
      rcases List.mem_cons.mp hx with rfl | hx
      · exact h
      · exact a x hx
/-- sorted(a list of laps) -/
theorem sortD_faces {K : PySem.W.Frag} {H : Hp} {a : Addr} {zs : List V} {fs : List (List (Str × Str))} {Q : VK} (hs : H a = some (.lst zs)) (td : TdAll K H zs (fs.map faceD)) (ne : ∀ f ∈ fs, f ≠ [])
    (q : ∀ (p : Addr) (zs' : List V) (fs' : List (List (Str × Str))), H p = none → fs'.Perm fs → TdAll K H zs' (fs'.map faceD) → Q (.ref p) (upd H p (.lst zs'))) : rSortD K [.ref a] H Q := by
  obtain ⟨h1, h2, h3⟩ := td_zip td
  let g : V × List (Str × Str) → V × PyData := fun x => (x.1, faceD x.2)
  have e1 : ((zs.zip fs).map g).map (·.1) = zs := by
    rw [List.map_map]
    exact h2
  have e2 : ((zs.zip fs).map g).map (·.2) = fs.map faceD := by
    rw [List.map_map]
    have : ((zs.zip fs).map (·.2)).map faceD = fs.map faceD := by rw [h3]
    rw [List.map_map] at this
    exact this
  refine ⟨⟨a, (zs.zip fs).map g, rfl, .inl (by rw [e1]; exact SqL.of hs), fun x hx => ?_, ?_, ?_, fun x hx => ?_, fun p hp => ?_⟩⟩
  · obtain ⟨y, hy, rfl⟩ := List.mem_map.mp hx
    exact (h1 y hy).dp
  · rw [e2]
    exact PySem.W.AllAlike.of fun f f' => alike_face f f'
  · rw [e2]
    refine .inl fun d hd => ?_
    obtain ⟨f, hf, rfl⟩ := List.mem_map.mp hd
    cases f with
    | nil => exact absurd rfl (ne [] hf)
    | cons d r => exact ⟨encD d, r.map encD, rfl⟩
  · obtain ⟨y, hy, rfl⟩ := List.mem_map.mp hx
    exact Nat.le_trans (depth_darts y.2) (by decide)
  · have e3 : ((zs.zip fs).map g).mergeSort (PySem.W.dataLe false (·.2)) = ((zs.zip fs).mergeSort fun x y => PySem.W.dataLe false (·.2) (g x) (g y)).map g := by
      refine (List.map_mergeSort (f := g) ?_).symm
      intro x _ y _
      rfl
    rw [e3, List.map_map]
    have pm := List.mergeSort_perm (zs.zip fs) fun x y => PySem.W.dataLe false (·.2) (g x) (g y)
    generalize ((zs.zip fs).mergeSort fun x y => PySem.W.dataLe false (·.2) (g x) (g y)) = L' at pm
    have pm2 := pm.map (·.2)
    rw [h3] at pm2
    exact q p (L'.map fun x => x.1) (L'.map fun x => x.2) hp pm2 (td_faces L' fun x hx => h1 x (pm.mem_iff.mp hx))
theorem TdAll.take {K : PySem.W.Frag} {H : Hp} : ∀ {vs : List V} {ds : List PyData} (k : Nat), TdAll K H vs ds → TdAll K H (vs.take k) (ds.take k)
  | _, _, 0, _ => by rw [List.take_zero, List.take_zero]; exact .nil
  | _, _, k + 1, .nil => by rw [List.take_nil, List.take_nil]; exact .nil
  | _, _, k + 1, .cons h t => .cons h (TdAll.take k t)
theorem TdAll.drop {K : PySem.W.Frag} {H : Hp} : ∀ {vs : List V} {ds : List PyData} (k : Nat), TdAll K H vs ds → TdAll K H (vs.drop k) (ds.drop k)
  | _, _, 0, h => h
  | _, _, k + 1, .nil => by rw [List.drop_nil, List.drop_nil]; exact .nil
  | _, _, k + 1, .cons h t => TdAll.drop k t
theorem cut_post (xs : List V) (k : Nat) (h : k ≤ xs.length) : cutV xs (some (k : Int)) none = xs.drop k := by
  unfold cutV
  rw [HT.sIx_none, HT.sIx_nat, Nat.min_eq_left h]
  exact List.take_of_length_le (by rw [List.length_drop]; exact Nat.le_refl _)
theorem td_zipD {K : PySem.W.Frag} {H : Hp} : ∀ {vs : List V} {ds : List (Str × Str)}, TdAll K H vs (ds.map encD) → ∃ L : List (V × (Str × Str)), L.map (·.1) = vs ∧ L.map (·.2) = ds ∧ ∀ x ∈ L, Td K H x.1 (encD x.2)
  | _, [], h => by
    cases h
    exact ⟨[], rfl, rfl, fun x hx => (nomatch hx)⟩
  | _, d :: ds, h => by
    cases h with
    | cons h t =>
      obtain ⟨L, a, b, c⟩ := td_zipD t
      refine ⟨(_, d) :: L, by rw [List.map_cons, a], by rw [List.map_cons, b], fun x hx => ?_⟩
      rcases List.mem_cons.mp hx with rfl | hx
      · exact h
      · exact c x hx
section
variable {P : Program} {w : World} {K : PySem.W.Frag} {mg : Str → Option Value} {base : Heap}
def spFaces (K : PySem.W.Frag) : Sp := fun vs H Q _ => ∃ (b : Addr) (xs : List V) (M : List Pl) (ys : List Addr), vs = [.ref b] ∧ SqT K H b xs ∧ PlsV K H xs M ys ∧ MapOk M ∧
  ∀ (p : Addr) H' (fs : List (List (Str × Str))) (zs : List V), Same H H' → H p = none → H' p = some (.lst zs) → TdAll K H' zs (fs.map faceD) → fs ≠ [] → (∀ f ∈ fs, FaceOk M f) → fs.length ≤ 1000 → (∀ f ∈ fs, f.length ≤ 1000) → Q (.ref p) H'
theorem ok_law_faces (T : Txt K mg) : FnOk P w K mg base CX0 1 T.d_law_faces.f T.d_law_faces.fd ["places"] (spFaces K) := by
  refine T.d_law_faces.F.ok sc_law_faces (fun vs H Q E h => ?_) (fun cdv A outer s H vs Q E hr h => ?_)
  · obtain ⟨_, _, _, _, rfl, _⟩ := h
    rfl
  · obtain ⟨b, xs, M, ys, rfl, h2, h3, hM, q⟩ := h
    refine ⟨_, (pss_cons (ps_set (i := 1) sc_law_faces.nd rfl (Or.inl rfl) pe_dnewK)
  (pss_cons (ps_mid (ps_for PassesOwn.never rfl (pi_tup (pv 0)) (pg_tup rfl (pgs_cons (pg_name (i := 2) sc_law_faces.nd rfl (Or.inl rfl)) (pgs_cons (pg_name (i := 3) sc_law_faces.nd rfl (Or.inl rfl)) pgs_nil)))
    (pss_one (ps_dput (hu_of hr) (pv 1) (pv 2) (pe_callTy call_list_of (by rfl) T.n_list (by decide +kernel) (pa_cons (pv 3) pa_nil)) rfl))))
  (pss_cons (ps_set (i := 4) sc_law_faces.nd rfl (Or.inl rfl) pe_dnewT)
  (pss_cons (ps_set (i := 5) sc_law_faces.nd rfl (Or.inl rfl) (pe_lst pa_nil))
  (pss_cons (ps_mid (ps_for PassesOwn.never rfl (pi_tup (pv 0)) (pg_tup rfl (pgs_cons (pg_name (i := 2) sc_law_faces.nd rfl (Or.inl rfl)) (pgs_cons (pg_name (i := 3) sc_law_faces.nd rfl (Or.inl rfl)) pgs_nil)))
    (pss_one (ps_mid (ps_for PassesOwn.never rfl (pi_list (pe_callB (cr_sortD hr.units) (by rfl) T.n_sorted (by decide +kernel) (pa_cons (pv 3) pa_nil))) (pg_name (i := 6) sc_law_faces.nd rfl (Or.inl rfl))
    (pss_cons (ps_set (i := 7) sc_law_faces.nd rfl (Or.inl rfl) (pe_tup (pa_cons (pv 2) (pa_cons (pv 6) pa_nil))))
  (pss_cons (ps_set (i := 8) sc_law_faces.nd rfl (Or.inl rfl) (pe_lst pa_nil))
  (pss_cons (ps_mid (ps_while PassesOwn.never (pt_cmp (pc_dnotin (hu_of hr) (pv 7) (pv 4)))
    (pss_cons (ps_dput (hu_of hr) (pv 4) (pv 7) pe_bl rfl)
  (pss_cons (ps_expr (pe_bm PySem.F.plainAttrs_list PySem.F.slot_list_append PySem.F.type_list_append mt_append (pv 8) (pa_cons (pv 7) pa_nil)))
  (pss_cons (ps_set (i := 9) sc_law_faces.nd rfl (Or.inl rfl) (pe_dget (hu_of hr) (pv 1) (pe_ix ix_tup (pv 7) pe_int (fun _ _ => rfl)) (fun _ _ => rfl)))
  (pss_one (ps_set (i := 7) sc_law_faces.nd rfl (Or.inl rfl) (pe_tup (pa_cons (pe_ix ix_tup (pv 7) pe_int (fun _ _ => rfl)) (pa_cons (pe_ix ix_list (pv 9) (pe_op op_modN (pe_callTy call_int1 (by rfl) T.n_int (by decide +kernel) (pa_cons (pe_op op_add (pe_bm PySem.F.plainAttrs_list PySem.F.slot_list_index PySem.F.type_list_index mt_index (pv 9) (pa_cons (pe_ix ix_tup (pv 7) pe_int (fun _ _ => rfl)) pa_nil)) pe_int) pa_nil)) (pe_callB call_len (by rfl) T.n_len (by decide +kernel) (pa_cons (pv 9) pa_nil))) (fun _ _ => rfl)) pa_nil))))))))))
  (pss_one (ps_mid (ps_if (pt_cmpR op_gt (pe_callB call_len (by rfl) T.n_len (by decide +kernel) (pa_cons (pv 8) pa_nil)) pe_int (nomark _))
    (pss_cons (ps_set (i := 10) sc_law_faces.nd rfl (Or.inl rfl) (pe_bm PySem.F.plainAttrs_list PySem.F.slot_list_index PySem.F.type_list_index (mt_indexD (u65 hr)) (pv 8) (pa_cons (pe_callB (cr_minD rfl hr.units) (by rfl) T.n_min (by decide +kernel) (pa_cons (pv 8) pa_nil)) pa_nil)))
  (pss_one (ps_expr (pe_bm PySem.F.plainAttrs_list PySem.F.slot_list_append PySem.F.type_list_append mt_append (pv 5) (pa_cons (pe_callTy call_tuple_of (by rfl) T.n_tuple (by decide +kernel) (pa_cons (pe_op op_cat (pe_slice sl_list (pv 8) (po_some (pv 10)) po_none) (pe_slice sl_list (pv 8) po_none (po_some (pv 10)))) pa_nil)) pa_nil)))))
    pss_nil)))))))))))
  (pss_one (ps_ret (pe_callB (cr_sortD hr.units) (by rfl) T.n_sorted (by decide +kernel) (pa_cons (pv 5) pa_nil))))))))), ?_⟩
    have lM : xs.length = M.length := h3.len.1
    refine fun tb htb => ?_
    have st := same_new (o := .dK []) htb
    refine ⟨fun σ' H' => ∃ x2 x3 ls, σ' = [some (.ref b), some (.ref tb), x2, x3, none, none, none, none, none, none, none] ∧ Same H H' ∧ TabL H' tb M ls, ?_, ?_⟩
    · refine ⟨_, rfl, b, rfl, ⟨_, (Tm.of st).sqT h2⟩, for_tup (K := K) (a := b) (xs := xs) (fun i σ' H' => ∃ x2 x3 ls, σ' = [some (.ref b), some (.ref tb), x2, x3, none, none, none, none, none, none, none] ∧ Same H H' ∧ TabL H' tb (M.take i) ls) ?_ ?_ ?_ ?_⟩
      · exact ⟨_, _, [], rfl, st, upd_same, rfl, fun i p l hp _ => by simp at hp⟩
      · rintro i σ' H' _ ⟨_, _, _, _, s0, _⟩
        exact (Tm.of s0).sqT h2
      · rintro i x σ' H' hi ⟨x2, x3, ls, rfl, s0, ht', hll, hlx⟩
        obtain ⟨a', p, y, rfl, hp, hy, hs, hf⟩ := h3.get hi
        have hiM : i < M.length := (List.getElem?_eq_some_iff.mp hp).1
        have hli : ls.length = i := by
          rw [hll, List.length_take]
          omega
        refine ⟨a', _, rfl, (Tm.of s0).sqT hs, rfl, _, _, rfl, _, _, rfl, rfl, ?_⟩
        refine ⟨_, rfl, y, _, rfl, .inr ((hf.mono (Tm.of s0)).sqT), fun l hl => ?_⟩
        have sl := same_new (o := .lst (p.2.map V.str)) hl
        have ntl : tb ≠ l := ne_of_none ht' hl
        refine ⟨_, rfl, _, rfl, tb, _, rfl, DPut.k (k := .inr p.1) (sl _ _ ht') (Nat.lt_of_le_of_lt (Nat.le_trans tab_len (by rw [List.length_take]; exact Nat.min_le_right _ _)) (Nat.lt_of_le_of_lt hM.len (by decide))), ?_⟩
        have e1 : (ls ++ [l]).take i = ls := by rw [← hli]; exact List.take_left
        have e2 : (ls ++ [l]).take (i + 1) = ls ++ [l] := List.take_of_length_le (by rw [List.length_append, hli]; exact Nat.le_refl _)
        have hput := tab_put (ys := ls ++ [l]) hp (by rw [← hli]; exact List.getElem?_concat_length) hM.nd
        rw [e1, e2] at hput
        rw [hput]
        refine ⟨_, _, ls ++ [l], rfl, (s0.trans sl).put htb, upd_same, ?_, fun j q l' hq hl' => ?_⟩
        · rw [List.length_append, hli, List.length_take, List.length_singleton]
          omega
        · have hj := (List.getElem?_eq_some_iff.mp hq).1
          rw [List.length_take] at hj
          by_cases hji : j < i
          · rw [List.getElem?_append_left (by omega)] at hl'
            rw [List.getElem?_take_of_lt (by omega)] at hq
            have hlist := hlx j q l' (by rw [List.getElem?_take_of_lt hji]; exact hq) hl'
            have hne : l' ≠ tb := fun e => by
              rw [e, ht'] at hlist
              cases hlist
            rw [upd_ne hne]
            exact sl _ _ hlist
          · have hj2 : j = i := by omega
            subst hj2
            rw [← hli, List.getElem?_concat_length] at hl'
            cases hl'
            rw [List.getElem?_take_of_lt (by omega), hp] at hq
            cases hq
            rw [upd_ne ntl.symm, upd_same]
      · rintro σ' H' ⟨x2, x3, ls, rfl, s0, ht'⟩
        have e1 : M.take xs.length = M := List.take_of_length_le (by rw [lM]; exact Nat.le_refl _)
        rw [e1] at ht'
        exact ⟨x2, x3, ls, rfl, s0, ht'⟩
    rintro σ1 H1 ⟨x2, x3, ls, rfl, s1, hTab⟩
    refine fun dn hdn => ?_
    have sd := same_new (o := .dT []) hdn
    refine ⟨(by show 0 ≤ sizeLine; decide), fun fc hfc => ?_⟩
    have sf := same_new (o := .lst []) hfc
    have ndf : dn ≠ fc := ne_of_none upd_same hfc
    have hfc1 : H1 fc = none := sd.free hfc
    have fb0 : FB K H1 (upd (upd H1 dn (.dT [])) fc (.lst [])) M dn fc [] [] [] [] := ⟨sd.trans sf, by rw [upd_ne ndf, upd_same]; rfl, upd_same, .nil, .inl rfl, fun f h => (nomatch h), Nat.le_refl _, fun f h => (nomatch h), fun d e _ _ => ⟨fun h => (nomatch h), fun h => (nomatch h)⟩, List.nodup_nil, fun d h => (nomatch h), fun d h => (nomatch h)⟩
    generalize (upd (upd H1 dn (.dT [])) fc (.lst [])) = H2 at fb0
    refine ⟨fun σ' H' => ∃ x2 x3 x6 x7 x8 x9 x10 S fs zs, σ' = [some (.ref b), some (.ref tb), x2, x3, some (.ref dn), some (.ref fc), x6, x7, x8, x9, x10] ∧ FB K H1 H' M dn fc S fs zs (darts M), ?_, ?_⟩
    · refine ⟨_, rfl, b, rfl, ⟨_, (Tm.of (s1.trans fb0.same)).sqT h2⟩, for_tup (K := K) (a := b) (xs := xs) (fun i σ' H' => ∃ x2 x3 x6 x7 x8 x9 x10 S fs zs, σ' = [some (.ref b), some (.ref tb), x2, x3, some (.ref dn), some (.ref fc), x6, x7, x8, x9, x10] ∧ FB K H1 H' M dn fc S fs zs (darts (M.take i))) ?_ ?_ ?_ ?_⟩
      · exact ⟨_, _, _, _, _, _, _, _, _, _, rfl, fb0⟩
      · rintro i σ' H' _ ⟨_, _, _, _, _, _, _, _, _, _, _, fb⟩
        exact (Tm.of (s1.trans fb.same)).sqT h2
      · rintro i x σ' H' hi ⟨x2, x3, x6, x7, x8, x9, x10, S, fs, zs, rfl, fb⟩
        obtain ⟨a', p, y, rfl, hp, hy, hs, hf⟩ := h3.get hi
        refine ⟨a', _, rfl, (Tm.of (s1.trans fb.same)).sqT hs, rfl, _, _, rfl, _, _, rfl, rfl, ?_⟩
        have pm := List.mem_of_getElem? hp
        refine ⟨fun σ2 H3 => ∃ x6 x7 x8 x9 x10 S fs zs, σ2 = [some (.ref b), some (.ref tb), some (.str p.1), some (.ref y), some (.ref dn), some (.ref fc), x6, x7, x8, x9, x10] ∧ FB K H1 H3 M dn fc S fs zs (darts (M.take (i + 1))), ?_, fun σ2 H3 z => by
          obtain ⟨x6, x7, x8, x9, x10, S, fs, zs, e, f⟩ := z
          exact ⟨_, _, x6, x7, x8, x9, x10, S, fs, zs, e, f⟩⟩
        refine ⟨_, rfl, sortD_strs (.inr ((hf.mono (Tm.of (s1.trans fb.same))).sqT)) fun sl hsl => ?_⟩
        have ssl := same_new (o := .lst ((sortS p.2).map V.str)) hsl
        have nsd : sl ≠ dn := fun e => by
          rw [e, fb.hd] at hsl
          cases hsl
        have nsf : sl ≠ fc := fun e => by
          rw [e, fb.hf] at hsl
          cases hsl
        refine ⟨sl, rfl, ⟨_, SqL.of upd_same⟩, for_list (K := K) (a := sl) (xs := (sortS p.2).map V.str) (fun j σ2 H3 => ∃ x6 x7 x8 x9 x10 S fs zs, σ2 = [some (.ref b), some (.ref tb), some (.str p.1), some (.ref y), some (.ref dn), some (.ref fc), x6, x7, x8, x9, x10] ∧ H3 sl = some (.lst ((sortS p.2).map V.str)) ∧ FB K H1 H3 M dn fc S fs zs (darts (M.take i) ++ (dartsOf p).take j)) ?_ ?_ ?_ ?_⟩
        · refine ⟨_, _, _, _, _, S, fs, zs, rfl, upd_same, ?_⟩
          rw [List.take_zero, List.append_nil]
          exact fb.dn ssl
        · rintro j σ2 H3 _ ⟨_, _, _, _, _, _, _, _, _, h, _⟩
          exact SqL.of h
        · rintro j x σ2 H3 hj ⟨x6, x7, x8, x9, x10, S, fs, zs, rfl, hsl3, fb3⟩
          rw [List.getElem?_map] at hj
          obtain ⟨o, ho, rfl⟩ : ∃ o, (sortS p.2)[j]? = some o ∧ x = V.str o := by
            cases e : (sortS p.2)[j]? with
            | none => rw [e] at hj; cases hj
            | some o => rw [e] at hj; exact ⟨o, rfl, (Option.some.inj hj).symm⟩
          have hd : (dartsOf p)[j]? = some (p.1, o) := by
            unfold dartsOf
            rw [List.getElem?_map, ho]
            rfl
          have d0m : (p.1, o) ∈ darts M := mem_darts pm ((sortS_perm p.2).mem_iff.mp (List.mem_of_getElem? ho))
          refine ⟨_, rfl, _, rfl, (by show 2 ≤ sizeLine; decide), fun da hda => ?_⟩
          have sda := same_new (o := .tup [V.str p.1, V.str o]) hda
          refine ⟨(by show 0 ≤ sizeLine; decide), fun wl hwl => ?_⟩
          have swl := same_new (o := .lst []) hwl
          have fb4 := (fb3.dn sda).dn swl
          have nwd : wl ≠ dn := fun e => by
            rw [e, (fb3.dn sda).hd] at hwl
            cases hwl
          have nwf : wl ≠ fc := fun e => by
            rw [e, (fb3.dn sda).hf] at hwl
            cases hwl
          have nws : wl ≠ sl := fun e => by
            rw [e, sda _ _ hsl3] at hwl
            cases hwl
          have hwl1 : H1 wl = none := (fb3.dn sda).same.free hwl
          have hdn1 : H1 dn = none := hdn
          refine ⟨fun σ5 H5 => ∃ x7 x9 W ws, σ5 = [some (.ref b), some (.ref tb), some (.str p.1), some (.ref y), some (.ref dn), some (.ref fc), some (.str o), x7, some (.ref wl), x9, x10] ∧ Same H1 H5 ∧ H5 sl = some (.lst ((sortS p.2).map V.str)) ∧ H5 dn = some (.dT (doneOf (S ++ W))) ∧ H5 fc = some (.lst zs) ∧ TdAll K H5 zs (fs.map faceD) ∧ H5 wl = some (.lst ws) ∧ TdAll K H5 ws (W.map encD) ∧ ∃ c, Going M S W (p.1, o) c ∧ c ∈ S ++ W, ?_, ?_⟩
          · refine while_in (fun σ5 H5 => ∃ da x9 W ws c, σ5 = [some (.ref b), some (.ref tb), some (.str p.1), some (.ref y), some (.ref dn), some (.ref fc), some (.str o), some (.ref da), some (.ref wl), x9, x10] ∧ Same H1 H5 ∧ H5 sl = some (.lst ((sortS p.2).map V.str)) ∧ H5 dn = some (.dT (doneOf (S ++ W))) ∧ H5 fc = some (.lst zs) ∧ TdAll K H5 zs (fs.map faceD) ∧ H5 wl = some (.lst ws) ∧ TdAll K H5 ws (W.map encD) ∧ H5 da = some (.tup [.str c.1, .str c.2]) ∧ Going M S W (p.1, o) c) (fun _ H5 => (darts M).length - match H5 dn with | some (.dT kvs) => kvs.length | _ => 0) ?_ ?_
            · refine ⟨da, _, [], [], (p.1, o), rfl, fb4.same, swl _ _ (sda _ _ hsl3), by rw [List.append_nil]; exact fb4.hd, fb4.hf, fb4.td, upd_same, .nil, swl _ _ upd_same, ⟨by rw [List.append_nil]; exact fb3.nd, fun d hd => ?_, d0m, fb3.cl, fun i d e h => by simp at h, fun _ => rfl, fun d h => by simp at h⟩⟩
              rw [List.append_nil] at hd
              exact fb3.sub d hd
            · rintro σ5 H5 ⟨da, x9, W, ws, c, rfl, s5, hsl5, hdn5, hfc5, td5, hwl5, tw5, hda5, go⟩
              refine ⟨_, rfl, _, rfl, dn, _, rfl, DGet.t (k := keyD c) hdn5 hda5, _, rfl, ?_⟩
              rw [done_val]
              by_cases hc : c ∈ S ++ W
              · rw [decide_eq_true hc]
                exact iteF ⟨_, _, W, ws, rfl, s5, hsl5, hdn5, hfc5, td5, hwl5, tw5, c, go, hc⟩
              · rw [decide_eq_false hc]
                refine iteT ?_
                obtain ⟨c', hn, hm'⟩ := next_ex hM go.cm
                have go' := go.step hM hc hn hm'
                obtain ⟨e1, j', i', wsb, hj', hi', hfirst, hz⟩ := hn
                have hlsj : j' < ls.length := by
                  rw [hTab.2.1]
                  exact (List.getElem?_eq_some_iff.mp hj').1
                have hlj : ls[j']? = some ls[j'] := List.getElem?_eq_getElem hlsj
                have hrow := hTab.2.2 j' _ _ hj' hlj
                have kl : (doneOf (S ++ W)).length < (darts M).length := by
                  have hh : (c :: (S ++ W)).length ≤ (darts M).length := nodup_le (List.nodup_cons.mpr ⟨hc, go.nd⟩) fun d hd => by
                    rcases List.mem_cons.mp hd with rfl | hd
                    · exact go.cm
                    · exact go.mem d hd
                  unfold doneOf
                  rw [List.length_map]
                  exact hh
                have hDL := hM.dlen
                refine ⟨fun σ6 H6 => ∃ da x9 W ws c, σ6 = [some (.ref b), some (.ref tb), some (.str p.1), some (.ref y), some (.ref dn), some (.ref fc), some (.str o), some (.ref da), some (.ref wl), x9, x10] ∧ Same H1 H6 ∧ H6 sl = some (.lst ((sortS p.2).map V.str)) ∧ H6 dn = some (.dT (doneOf (S ++ W))) ∧ H6 fc = some (.lst zs) ∧ TdAll K H6 zs (fs.map faceD) ∧ H6 wl = some (.lst ws) ∧ TdAll K H6 ws (W.map encD) ∧ H6 da = some (.tup [.str c.1, .str c.2]) ∧ Going M S W (p.1, o) c ∧ (doneOf (S ++ W)).length = (doneOf (S ++ W)).length ∧ ((darts M).length - match H6 dn with | some (.dT kvs) => kvs.length | _ => 0) < ((darts M).length - match H5 dn with | some (.dT kvs) => kvs.length | _ => 0), fun σ6 H6 z => by
                  obtain ⟨da, x9, W, ws, c, a1, a2, a3, a4, a5, a6, a7, a8, a9, a10, _, a12⟩ := z
                  exact ⟨_, a12, rfl, da, x9, W, ws, c, a1, a2, a3, a4, a5, a6, a7, a8, a9, a10⟩, ?_⟩
                have sput : Same H1 (upd H5 dn (.dT (doneOf (S ++ W ++ [c])))) := s5.put hdn1
                have tmput : Tm H5 (upd H5 dn (.dT (doneOf (S ++ W ++ [c])))) := Tm.dT hdn5
                refine ⟨_, rfl, _, rfl, dn, _, rfl, DPut.t (k := keyD c) hdn5 hda5 (Nat.lt_of_le_of_lt (by omega : (doneOf (S ++ W)).length ≤ 1000) (by decide)), ?_⟩
                rw [done_put hc]
                have nda : da ≠ dn := fun e => by
                  rw [e, hdn5] at hda5
                  cases hda5
                have hwl6 : upd H5 dn (.dT (doneOf (S ++ W ++ [c]))) wl = some (.lst ws) := by rw [upd_ne nwd]; exact hwl5
                have hda6 : upd H5 dn (.dT (doneOf (S ++ W ++ [c]))) da = some (.tup [.str c.1, .str c.2]) := by rw [upd_ne nda]; exact hda5
                have wlen : ws.length ≤ 1000 := by
                  rw [tw5.length, List.length_map]
                  have : (doneOf (S ++ W)).length = S.length + W.length := by unfold doneOf; rw [List.length_map, List.length_append]
                  omega
                refine ⟨_, rfl, .inl ⟨rfl, _, SqL.of hwl6⟩, _, rfl, wl, ws, _, rfl, rfl, hwl6, Nat.lt_of_le_of_lt wlen (by decide), ?_⟩
                have tmw := Tm.lst (o := .lst (ws ++ [V.ref da])) hwl6
                have nwa : da ≠ wl := fun e => by
                  rw [e, hwl5] at hda5
                  cases hda5
                have hda7 : upd (upd H5 dn (.dT (doneOf (S ++ W ++ [c])))) wl (.lst (ws ++ [.ref da])) da = some (.tup [.str c.1, .str c.2]) := by rw [upd_ne nwa]; exact hda6
                have s7 : Same H1 (upd (upd H5 dn (.dT (doneOf (S ++ W ++ [c])))) wl (.lst (ws ++ [.ref da]))) := sput.put hwl1
                have hrow7 := s7 _ _ hrow
                refine ⟨_, rfl, _, rfl, da, _, _, V.str c.2, rfl, rfl, SqT.of hda7, rfl, tb, .ref ls[j'], rfl, ?_, ?_⟩
                · show DGet _ tb (kV (.inr c.2)) (some (.ref ls[j']))
                  rw [← tab_val hM.nd hj' hlj]
                  exact DGet.k (s7 _ _ hTab.1)
                have hlt : (i' + 1) % wsb.length < wsb.length := Nat.mod_lt _ (Nat.lt_of_le_of_lt (Nat.zero_le _) (List.getElem?_eq_some_iff.mp hi').1)
                have hix : atI (wsb.map V.str) (((i' : Int) + 1).fmod ((wsb.map V.str).length : Nat)) = some (.str c'.2) := by
                  have e : ((i' : Int) + 1).fmod ((wsb.map V.str).length : Nat) = (((i' + 1) % wsb.length : Nat) : Int) := by
                    rw [List.length_map, Int.fmod_eq_emod_of_nonneg _ (by omega), Int.natCast_emod, Int.natCast_add]
                    rfl
                  rw [e]
                  exact atI_nat (by rw [List.getElem?_map, hz]; rfl)
                refine ⟨_, rfl, da, _, _, V.str c.2, rfl, rfl, SqT.of hda7, rfl, ?_⟩
                refine ⟨_, rfl, _, rfl, .inl ⟨rfl, _, SqL.of hrow7⟩, _, rfl, da, _, _, V.str c.1, rfl, rfl, SqT.of hda7, rfl, ?_⟩
                refine ⟨ls[j'], wsb.map V.str, .str c.1, i', .str c.1, rfl, rfl, SqL.of hrow7, rfl, flat_strs, by rw [List.getElem?_map, hi']; rfl, by show (c.1 == c.1) = true; simp, fun m z' hm hz' => ?_, ?_⟩
                · rw [List.getElem?_map] at hz'
                  cases hw : wsb[m]? with
                  | none => rw [hw] at hz'; cases hz'
                  | some u =>
                    rw [hw] at hz'
                    cases hz'
                    have : u ≠ c.1 := fun e => hfirst m hm (by rw [hw, e])
                    show (u == c.1) = false
                    simpa using this
                refine ⟨_, _, rfl, rfl, .inl ⟨_, rfl, _, rfl, _, _, rfl, .inl ⟨_, SqL.of hrow7, rfl⟩, _, _, rfl, rfl, ?_, ls[j'], _, _, _, rfl, rfl, SqL.of hrow7, hix, (by show 2 ≤ sizeLine; decide), fun nt hnt => ?_⟩⟩
                · show (((wsb.map V.str).length : Nat) : Int) ≠ 0
                  rw [List.length_map]
                  have := (List.getElem?_eq_some_iff.mp hi').1
                  omega
                have s8 := same_new (o := .tup [V.str c.2, V.str c'.2]) hnt
                have tm8 := (tmput.trans tmw).trans (Tm.of s8)
                have hdn8 : upd (upd (upd H5 dn (.dT (doneOf (S ++ W ++ [c])))) wl (.lst (ws ++ [.ref da]))) nt (.tup [.str c.2, .str c'.2]) dn = some (.dT (doneOf (S ++ W ++ [c]))) := s8 _ _ (by rw [upd_ne nwd.symm, upd_same])
                refine ⟨nt, _, W ++ [c], ws ++ [.ref da], c', rfl, s7.trans s8, s8 _ _ (by rw [upd_ne nws.symm, upd_ne nsd]; exact hsl5), by rw [← List.append_assoc]; exact hdn8, s8 _ _ (by rw [upd_ne nwf.symm, upd_ne ndf.symm]; exact hfc5), td5.mono tm8, s8 _ _ upd_same, ?_, ?_, go', rfl, ?_⟩
                · rw [List.map_append]
                  exact (tw5.mono tm8).append (.cons (td_dart (d := c) (SqT.of (s8 _ _ hda7))) .nil)
                · rw [upd_same, ← e1]
                · rw [hdn8, hdn5]
                  show (darts M).length - (doneOf (S ++ W ++ [c])).length < (darts M).length - (doneOf (S ++ W)).length
                  have : (doneOf (S ++ W ++ [c])).length = (doneOf (S ++ W)).length + 1 := by
                    unfold doneOf
                    rw [List.length_map, List.length_map, List.length_append]
                    rfl
                  omega
          rintro σ5 H5 ⟨x7, x9, W, ws, rfl, s5, hsl5, hdn5, hfc5, td5, hwl5, tw5, c, go, hc⟩
          have hdn6 : ∀ f2 : List (List (Str × Str)), True := fun _ => True.intro
          refine ⟨fun σ6 H6 => ∃ x10 fs zs, σ6 = [some (.ref b), some (.ref tb), some (.str p.1), some (.ref y), some (.ref dn), some (.ref fc), some (.str o), x7, some (.ref wl), x9, x10] ∧ H6 sl = some (.lst ((sortS p.2).map V.str)) ∧ FB K H1 H6 M dn fc (S ++ W) fs zs (darts (M.take i) ++ (dartsOf p).take (j + 1)), ?_, fun σ6 H6 z => by
            obtain ⟨x10, fs, zs, e, h, f⟩ := z
            exact ⟨_, x7, _, x9, x10, S ++ W, fs, zs, e, h, f⟩⟩
          have gone : ∀ d, (p.1, o) ∈ S ++ W → d ∈ darts (M.take i) ++ (dartsOf p).take (j + 1) → d ∈ S ++ W := fun d h0 hd' => by
            rw [take_snoc hd, ← List.append_assoc] at hd'
            rcases List.mem_append.mp hd' with z | z
            · exact List.mem_append_left _ (fb3.all d z)
            · rw [List.mem_singleton.mp z]
              exact h0
          refine ⟨_, rfl, _, _, rfl, .inl ⟨_, SqL.of hwl5, rfl⟩, _, _, rfl, rfl, _, rfl, ?_⟩
          refine ite2 (fun hpos => ?_) (fun hz => ?_)
          · have hW : W ≠ [] := fun e => by
              subst e
              have := tw5.length
              have h2 := of_decide_eq_true hpos
              rw [this] at h2
              exact absurd h2 (by decide)
            obtain ⟨fo, clo, d0W⟩ := go.done hM hc hW
            have wl1000 : W.length ≤ 1000 := by
              have h1 := nodup_le (List.nodup_append.mp go.nd).2.1 (fun d hd => go.mem d (List.mem_append_right _ hd))
              have h2 := hM.dlen
              omega
            obtain ⟨L, hL1, hL2, hL3⟩ := td_zipD tw5
            obtain ⟨l0, Lr, rfl⟩ : ∃ l0 Lr, L = l0 :: Lr := by
              cases L with
              | nil => exact absurd hL2.symm hW
              | cons a r => exact ⟨a, r, rfl⟩
            have hb1 : ((l0.1, HD.encD l0.2) :: Lr.map fun x => (x.1, HD.encD x.2)).map (·.1) = ws := by
              rw [List.map_cons, List.map_map]
              exact hL1
            have hb2 : ((l0.1, HD.encD l0.2) :: Lr.map fun x => (x.1, HD.encD x.2)).map (·.2) = W.map HD.encD := by
              have e := congrArg (List.map HD.encD) hL2
              rw [List.map_cons, List.map_map]
              rw [List.map_cons, List.map_cons, List.map_map] at e
              exact e
            refine ⟨_, rfl, .inl ⟨rfl, _, SqL.of hwl5⟩, _, rfl, wl, (l0.1, HD.encD l0.2), Lr.map fun x => (x.1, HD.encD x.2), rfl, .inl (by rw [hb1]; exact SqL.of hwl5), ?_, ?_, ?_, ?_⟩
            · intro x hx
              rcases List.mem_cons.mp hx with rfl | hx
              · exact (hL3 _ (List.mem_cons_self ..)).dp
              · obtain ⟨y, hy, rfl⟩ := List.mem_map.mp hx
                exact (hL3 y (List.mem_cons_of_mem _ hy)).dp
            · rw [hb2]
              refine ⟨fun x hx y hy => ?_, fun x hx e => ?_⟩
              · obtain ⟨u, _, rfl⟩ := List.mem_map.mp hx
                obtain ⟨u', _, rfl⟩ := List.mem_map.mp hy
                exact alike_dart u u'
              · obtain ⟨u, _, rfl⟩ := List.mem_map.mp hx
                cases e
            · intro x hx
              have hx2 : x.2 ∈ W.map HD.encD := by rw [← hb2]; exact List.mem_map.mpr ⟨x, hx, rfl⟩
              obtain ⟨u, _, e⟩ := List.mem_map.mp hx2
              rw [← e]
              exact Nat.le_trans (depth_dart u) (by decide)
            · intro x hx _
              obtain ⟨u, hu, hux⟩ : ∃ u, u ∈ l0 :: Lr ∧ x = (u.1, HD.encD u.2) := by
                rcases List.mem_cons.mp hx with rfl | hx
                · exact ⟨l0, List.mem_cons_self .., rfl⟩
                · obtain ⟨y, hy, rfl⟩ := List.mem_map.mp hx
                  exact ⟨y, List.mem_cons_of_mem _ hy, rfl⟩
              subst hux
              have huW : u.2 ∈ W := by rw [← hL2]; exact List.mem_map.mpr ⟨u, hu, rfl⟩
              obtain ⟨k, hk, hkm⟩ := first_ix huW
              have hkl := (List.getElem?_eq_some_iff.mp hk).1
              have okW : ∀ d ∈ W, OkD d := fun d hd => hM.okd (go.mem d (List.mem_append_right _ hd))
              refine ⟨wl, u.1, encD u.2, W.map encD, k, encD u.2, rfl, rfl, .lst (SqL.of hwl5) tw5.dp, (hL3 u hu).dp, shaped_darts okW, shaped_dart (okW _ huW), by rw [List.getElem?_map, hk]; rfl, by rw [eqv_dart]; exact decide_eq_true rfl, fun m z' hm hz' => ?_, ?_⟩
              · rw [List.getElem?_map] at hz'
                cases hw : W[m]? with
                | none => rw [hw] at hz'; cases hz'
                | some v =>
                  rw [hw] at hz'
                  cases hz'
                  rw [eqv_dart]
                  exact decide_eq_false fun e => hkm m hm (by rw [hw, e])
              have wsl : ws.length = W.length := by rw [tw5.length, List.length_map]
              refine ⟨_, rfl, .inl ⟨rfl, _, SqL.of hfc5⟩, ?_⟩
              refine ⟨_, rfl, _, rfl, _, rfl, wl, ws, rfl, SqL.of hwl5, fun q1 hq1 => ?_⟩
              have sq1 := same_new (o := .lst (cutV ws (some (k : Int)) none)) hq1
              refine ⟨_, rfl, _, rfl, _, rfl, wl, ws, rfl, SqL.of (sq1 _ _ hwl5), fun q2 hq2 => ?_⟩
              have sq2 := same_new (o := .lst (cutV ws none (some (k : Int)))) hq2
              refine ⟨q1, q2, _, _, rfl, rfl, sq2 _ _ upd_same, upd_same, ?_, fun q3 hq3 => ?_⟩
              · rw [cut_post _ _ (by omega), cut_pre, List.length_drop, List.length_take]
                exact Nat.le_trans (by omega : _ ≤ 1000) (by decide)
              have sq3 := same_new (o := .lst (cutV ws (some (k : Int)) none ++ cutV ws none (some (k : Int)))) hq3
              have e3 : cutV ws (some (k : Int)) none ++ cutV ws none (some (k : Int)) = ws.drop k ++ ws.take k := by rw [cut_post _ _ (by omega), cut_pre]
              refine ⟨q3, _, rfl, .inl ⟨SqL.of upd_same, fun tp htp => ?_⟩⟩
              have sq4 := same_new (o := .tup (cutV ws (some (k : Int)) none ++ cutV ws none (some (k : Int)))) htp
              have sall := sq1.trans (sq2.trans (sq3.trans sq4))
              have hfc6 := sall _ _ hfc5
              have tmf := Tm.lst (o := .lst (zs ++ [V.ref tp])) hfc6
              have dl1000 := hM.dlen
              have sl1000 := nodup_le fb3.nd fb3.sub
              have fl := fb3.len
              refine ⟨fc, zs, _, rfl, rfl, hfc6, ?_, ?_⟩
              · rw [td5.length, List.length_map]
                exact Nat.lt_of_le_of_lt (by omega : fs.length ≤ 1000) (by decide)
              have lens : ((S ++ W).length : Nat) = S.length + W.length := List.length_append ..
              have wpos := List.length_pos_iff.mpr hW
              refine ⟨_, fs ++ [W.drop k ++ W.take k], zs ++ [.ref tp], rfl, ?_, ⟨(s5.trans sall).put hfc1, ?_, upd_same, ?_, .inr (by simp), ?_, ?_, ?_, clo, go.nd, go.mem, fun d hd => gone d (List.mem_append_right _ d0W) hd⟩⟩
              · rw [upd_ne nsf]
                exact sall _ _ hsl5
              · rw [upd_ne ndf]
                exact sall _ _ hdn5
              · rw [List.map_append]
                refine (td5.mono ((Tm.of sall).trans tmf)).append (.cons (.tup (xs := ws.drop k ++ ws.take k) (tmf.sqT (SqT.of (by rw [upd_same, e3]))) ?_) .nil)
                rw [List.map_append, List.map_drop, List.map_take]
                exact ((TdAll.drop k tw5).append (TdAll.take k tw5)).mono ((Tm.of sall).trans tmf)
              · intro f hf
                rcases List.mem_append.mp hf with z | z
                · exact fb3.ok f z
                · rw [List.mem_singleton.mp z]
                  exact fo.turn hkl
              · rw [List.length_append, lens, List.length_singleton]
                omega
              · intro f hf
                rcases List.mem_append.mp hf with z | z
                · exact fb3.flen f z
                · rw [List.mem_singleton.mp z, List.length_append, List.length_drop, List.length_take]
                  omega
          · have hW : W = [] := by
              cases W with
              | nil => rfl
              | cons d r =>
                have := tw5.length
                exact absurd (show decide ((0 : Int) < ((ws.length : Nat) : Int)) = true from decide_eq_true (by rw [this]; show (0 : Int) < (((d :: r).map HD.encD).length : Nat); rw [List.length_map, List.length_cons]; omega)) hz
            subst hW
            have hc0 := go.first rfl
            rw [hc0] at hc
            refine ⟨x10, fs, zs, rfl, hsl5, ⟨s5, hdn5, hfc5, td5, ?_, fb3.ok, ?_, fb3.flen, ?_, go.nd, go.mem, fun d hd => gone d hc hd⟩⟩
            · rw [List.append_nil]
              exact fb3.ne
            · rw [List.append_nil]
              exact fb3.len
            · rw [List.append_nil]
              exact fb3.cl
        · rintro σ2 H3 ⟨x6, x7, x8, x9, x10, S, fs, zs, rfl, _, fb3⟩
          have e : (dartsOf p).take ((sortS p.2).map V.str).length = dartsOf p := List.take_of_length_le (by unfold dartsOf; rw [List.length_map, List.length_map]; exact Nat.le_refl _)
          rw [e, ← darts_snoc hp] at fb3
          exact ⟨x6, x7, x8, x9, x10, S, fs, zs, rfl, fb3⟩
      · rintro σ' H' ⟨x2, x3, x6, x7, x8, x9, x10, S, fs, zs, rfl, fb⟩
        have e1 : M.take xs.length = M := List.take_of_length_le (by rw [lM]; exact Nat.le_refl _)
        rw [e1] at fb
        exact ⟨x2, x3, x6, x7, x8, x9, x10, S, fs, zs, rfl, fb⟩
    rintro σ3 H3 ⟨x2, x3, x6, x7, x8, x9, x10, S, fs, zs, rfl, fb⟩
    refine ⟨_, rfl, sortD_faces fb.hf fb.td (fun f hf => (fb.ok f hf).ne) fun p zs' fs' hp pm td' => ?_⟩
    have sl := same_new (o := .lst zs') hp
    have hne : fs ≠ [] := by
      rcases fb.ne with e | e
      · obtain ⟨p0, hp0⟩ : ∃ p0, M[0]? = some p0 := ⟨_, List.getElem?_eq_getElem (by have := hM.len2; omega)⟩
        have hm := List.mem_of_getElem? hp0
        obtain ⟨b0, hb0⟩ := List.exists_mem_of_ne_nil _ (hM.wne p0 hm)
        have := fb.all _ (mem_darts hm hb0)
        rw [e] at this
        cases this
      · exact e
    refine q p _ fs' zs' ((s1.trans fb.same).trans sl) ((s1.trans fb.same).free hp) upd_same (td'.mono (Tm.of sl)) (fun e => ?_) (fun f hf => fb.ok f (pm.mem_iff.mp hf)) ?_ (fun f hf => fb.flen f (pm.mem_iff.mp hf))
    · subst e
      exact hne (List.nil_perm.mp pm)
    · rw [pm.length_eq]
      exact Nat.le_trans fb.len (Nat.le_trans (nodup_le fb.nd fb.sub) hM.dlen)
end
end K2
namespace K2
open PySem PyProof.Rows L2 HD
section
variable {P : Program} {w : World} {K : PySem.W.Frag} {mg : Str → Option Value} {base : Heap}
def spRound (K : PySem.W.Frag) : Sp := fun vs H Q _ => ∃ (t h : Addr) (v : V) (M : List Pl) (ys : List Addr) (d : Str × Str), vs = [.ref t, v] ∧ Tin H t h ∧ Web K H v M ys d ∧ MapOk M ∧ ∀ H', Rst t h H H' → Tin H' t h → Q (.bl true) H'
theorem ok_law_round (T : Txt K mg) : FnOk P w K mg base CX0 5 T.d_law_round.f T.d_law_round.fd ["tin", "web"] (spRound K) := by
  refine T.d_law_round.F.ok sc_law_round (fun vs H Q E h => ?_) (fun cdv A outer s H vs Q E hr h => ?_)
  · obtain ⟨_, _, _, _, _, _, rfl, _⟩ := h
    rfl
  · obtain ⟨t, hh, v, M, ys, d, rfl, hT, hW, hM, q⟩ := h
    refine ⟨_, (pss_cons (ps_set (i := 2) sc_law_round.nd rfl (Or.inl rfl) (pe_call (ok_law_faces T) (hr.mono (by decide)) (by rfl) T.d_law_faces.m T.d_law_faces.F.kp T.d_law_faces.b .nil pass0 (pa_cons (pe_ix ix_tup (pv 1) pe_int (fun _ _ => rfl)) pa_nil)))
  (pss_cons (ps_set (i := 3) sc_law_round.nd rfl (Or.inl rfl) (pe_ix ix_list (pv 2) (pe_call (ok_law_spill T) (hr.mono (by decide)) (by rfl) T.d_law_spill.m T.d_law_spill.F.kp T.d_law_spill.b .nil pass0 (pa_cons (pv 0) (pa_cons (pe_callB call_len (by rfl) T.n_len (by decide +kernel) (pa_cons (pv 2) pa_nil)) pa_nil))) (fun _ _ => rfl)))
  (pss_cons (ps_set (i := 4) sc_law_round.nd rfl (Or.inl rfl) (pe_call (ok_law_spill T) (hr.mono (by decide)) (by rfl) T.d_law_spill.m T.d_law_spill.F.kp T.d_law_spill.b .nil pass0 (pa_cons (pv 0) (pa_cons (pe_callB call_len (by rfl) T.n_len (by decide +kernel) (pa_cons (pv 3) pa_nil)) pa_nil))))
  (pss_cons (ps_set (i := 5) sc_law_round.nd rfl (Or.inl rfl) (pe_ix ix_tup (pv 3) (pv 4) (fun _ _ => rfl)))
  (pss_cons (ps_for PassesOwn.never rfl (pi_range1 (by rfl) T.n_range (pa_cons (pe_callB call_len (by rfl) T.n_len (by decide +kernel) (pa_cons (pv 3) pa_nil)) pa_nil)) (pg_name (i := 6) sc_law_round.nd rfl (Or.inl rfl))
    (pss_cons (ps_set (i := 7) sc_law_round.nd rfl (Or.inl rfl) (HX.pe_callK00 (ok_dart_behind T) (hr.mono (by decide)) (by rfl) T.d_dart_behind.m T.d_dart_behind.F.kp (kb_dart_behind_web_a_b T) HX.passN0 (pk_cons (pv 1) (pk_cons (pe_ix ix_tup (pv 5) pe_int (fun _ _ => rfl)) (pk_cons (pe_ix ix_tup (pv 5) pe_int (fun _ _ => rfl)) pk_nil)))))
  (pss_cons (ps_set (i := 8) sc_law_round.nd rfl (Or.inl rfl) (pe_ix ix_tup (pv 3) (pe_op op_modN (pe_callTy call_int1 (by rfl) T.n_int (by decide +kernel) (pa_cons (pe_op op_add (pe_op op_add (pv 4) (pv 6)) pe_int) pa_nil)) (pe_callB call_len (by rfl) T.n_len (by decide +kernel) (pa_cons (pv 3) pa_nil))) (fun _ _ => rfl)))
  (pss_cons (ps_if (pt_not (pt_val (pe_call (ok_law_same T 2) (hr.mono (by decide)) (by rfl) T.d_law_same.m T.d_law_same.F.kp T.d_law_same.b .nil pass0 (pa_cons (pv 7) (pa_cons (pv 8) pa_nil)))))
    (pss_one (ps_ret pe_bl))
    pss_nil)
  (pss_one (ps_set (i := 5) sc_law_round.nd rfl (Or.inl rfl) (pv 8)))))))
  (pss_one (ps_ret (pe_cmpR (op_eqD hr.units) (pv 5) (pe_ix ix_tup (pv 3) (pv 4) (fun _ _ => rfl)) (nomark _))))))))), ?_⟩
    obtain ⟨a, b, c, xs, rfl, h1, h2, h3, h4⟩ := id hW.1
    refine ⟨_, rfl, a, _, _, _, rfl, rfl, h1, rfl, ?_⟩
    refine ⟨b, xs, M, ys, rfl, h2, h3, hM, fun fp H1 fs zs s1 hfp0 hfp td hne hok hl1 hl2 => ?_⟩
    have T1 := hT.same s1
    have nf := hT.ne hfp0
    have lz : zs.length = fs.length := by rw [td.length, List.length_map]
    have lpos := List.length_pos_iff.mpr hne
    refine ⟨_, rfl, _, rfl, _, rfl, _, _, rfl, .inl ⟨_, SqL.of hfp, rfl⟩, t, hh, _, rfl, by omega, by omega, T1, fun r H2 hr2 r2 T2 => ?_⟩
    have hrl : r < fs.length := by omega
    have hfp2 := r2 fp _ nf.1 nf.2 hfp
    obtain ⟨zr, hzr, tdr⟩ := td.get2 (i := r) (d := faceD fs[r]) (by rw [List.getElem?_map, List.getElem?_eq_getElem hrl]; rfl)
    have fo := hok fs[r] (List.getElem_mem hrl)
    have fl := hl2 fs[r] (List.getElem_mem hrl)
    generalize fs[r] = f at tdr fo fl
    have tdr2 := tdr.mono (r2.tm T1)
    obtain ⟨fa, vs, rfl, hfa, tvs⟩ := tdr2.tup_inv
    refine ⟨fp, zs, _, .ref fa, rfl, rfl, SqL.of hfp2, atI_nat hzr, ?_⟩
    have lv : vs.length = f.length := by rw [tvs.length, List.length_map]
    have fpos := List.length_pos_iff.mpr fo.ne
    refine ⟨_, rfl, _, rfl, _, _, rfl, .inr ⟨_, hfa, rfl⟩, t, hh, _, rfl, by omega, by omega, T2, fun k H3 hk r3 T3 => ?_⟩
    have hkl : k < f.length := by omega
    have tm3 := r3.tm T2
    have hfa3 := tm3.sqT hfa
    have tvs3 := tvs.mono tm3
    have W3 := hW.mono (((Rst.of s1).trans (r2.trans r3)).tm hT)
    have itm : ∀ i, ∃ (vi : V) (di : Str × Str), vs[(k + i) % f.length]? = some vi ∧ f[(k + i) % f.length]? = some di := fun i => by
      have h : (k + i) % f.length < f.length := Nat.mod_lt _ fpos
      exact ⟨vs[(k + i) % f.length]'(by omega), f[(k + i) % f.length], List.getElem?_eq_getElem _, List.getElem?_eq_getElem _⟩
    have itmT : ∀ {i : Nat} {vi : V} {di : Str × Str}, vs[i]? = some vi → f[i]? = some di → Td K H3 vi (encD di) := fun {i vi di} e1 e2 => by
      obtain ⟨x, hx, tx⟩ := tvs3.get e1
      rw [List.getElem?_map, e2] at hx
      cases hx
      exact tx
    obtain ⟨v0, d0, hv0, hd0⟩ := itm 0
    rw [Nat.add_zero, Nat.mod_eq_of_lt hkl] at hv0 hd0
    refine ⟨_, rfl, _, rfl, fa, vs, _, v0, rfl, rfl, hfa3, atI_nat hv0, ?_⟩
    refine ⟨_, rfl, _, _, rfl, .inr ⟨_, hfa3, rfl⟩, _, rfl, by omega, by omega, for_range (lo := 0) (n := (vs.length : Int).toNat) (fun i σ' H' => ∃ (x6 x7 x8 : Option V) (vi : V), σ' = [some (.ref t), some (.ref a), some (.ref fp), some (.ref fa), some (.int k), some vi, x6, x7, x8] ∧ vs[(k + i) % f.length]? = some vi ∧ Same H3 H') ?_ ?_ ?_⟩
    · exact ⟨_, _, _, v0, rfl, by rw [Nat.add_zero, Nat.mod_eq_of_lt hkl]; exact hv0, Same.refl H3⟩
    · rintro i σ' H' hi ⟨x6, x7, x8, vi, rfl, hvi, s0⟩
      obtain ⟨vi', di, hvi', hdi⟩ := itm i
      rw [hvi] at hvi'
      cases hvi'
      obtain ⟨vn, en, hvn, hen⟩ := itm (i + 1)
      have hnx : IsNext M di en := fo.lap ((k + i) % f.length) di en hdi (by
        rw [Nat.mod_add_mod, Nat.add_assoc]
        exact hen)
      obtain ⟨da, rfl, hda⟩ := td_dart_inv ((itmT hvi hdi).mono (Tm.of s0))
      have hdm := fo.mem di (List.mem_of_getElem? hdi)
      obtain ⟨_, _, _, _, _, _, _, hw2⟩ := hM.dart (a := di.1) (b := di.2) hdm
      refine ⟨_, rfl, _, rfl, da, _, _, V.str di.1, rfl, rfl, hda, rfl, _, rfl, da, _, _, V.str di.2, rfl, rfl, hda, rfl, ?_⟩
      refine ⟨_, M, ys, d, di.1, di.2, rfl, W3.mono (Tm.of s0), fun _ => ⟨en.2, hnx.2, fun p1 H5 s5 _ hp1 => ?_⟩, fun hno => absurd hw2 hno⟩
      have s6 := s0.trans s5
      have hfa5 := (Tm.of s6).sqT hfa3
      have hix : atI vs (((k : Int) + (0 + (i : Int)) + 1).fmod (vs.length : Nat)) = some vn := by
        have e : ((k : Int) + (0 + (i : Int)) + 1).fmod (vs.length : Nat) = (((k + (i + 1)) % f.length : Nat) : Int) := by
          rw [lv, show (k : Int) + (0 + (i : Int)) + 1 = ((k + (i + 1) : Nat) : Int) by omega, Int.fmod_eq_emod_of_nonneg _ (by omega), Int.natCast_emod]
        rw [e]
        exact atI_nat hvn
      refine ⟨_, rfl, _, rfl, _, rfl, _, _, rfl, rfl, _, _, rfl, rfl, .inl ⟨_, rfl, _, rfl, _, _, rfl, .inr ⟨_, hfa5, rfl⟩, _, _, rfl, rfl, ?_, fa, vs, _, vn, rfl, rfl, hfa5, hix, ?_⟩⟩
      · show ((vs.length : Nat) : Int) ≠ 0
        omega
      refine ⟨_, rfl, _, rfl, _, _, encD en, rfl, ?_, (itmT hvn hen).mono (Tm.of s6), depth_dart _, small_dart _, fun H7 s7 => ⟨_, rfl, iteF ?_⟩⟩
      · exact td_dart (SqT.of (by rw [hp1, hnx.1]))
      · exact ⟨_, rfl, _, _, _, vn, rfl, hvn, s6.trans s7⟩
    · rintro σ' H' ⟨x6, x7, x8, vi, rfl, hvi, s0⟩
      rw [Int.toNat_natCast, lv, Nat.add_mod_right, Nat.mod_eq_of_lt hkl, hv0] at hvi
      cases hvi
      have td0 := (itmT hv0 hd0).mono (Tm.of s0)
      have okd := hM.okd (fo.mem _ (List.mem_of_getElem? hd0))
      refine ⟨_, rfl, _, rfl, _, rfl, fa, vs, _, v0, rfl, rfl, (Tm.of s0).sqT hfa3, atI_nat hv0, encD d0, encD d0, td0.dp, td0.dp, shaped_dart okd, shaped_dart okd, ?_⟩
      rw [eqv_dart, decide_eq_true rfl]
      exact q H' ((Rst.of s1).trans (r2.trans (r3.trans (Rst.of s0)))) (T3.same s0)
end
end K2
/-! cells, dicts with cells as keys, a dict with pairs of cells as keys -/
namespace HT
open PySem PySem.Spec PyProof.Rows L2 HD
abbrev Cell := Int × Int
abbrev Edge := Cell × Cell
def nkC (c : Cell) : NestedKey := .tup [.num c.1, .num c.2]
def nk (e : Edge) : NestedKey := .tup [nkC e.1, nkC e.2]
theorem nk_inj {e f : Edge} (h : nk e = nk f) : e = f := by
  obtain ⟨⟨a, b⟩, c, d⟩ := e
  obtain ⟨⟨a', b'⟩, c', d'⟩ := f
  unfold nk nkC at h
  injection h with h
  injection h with h1 h
  injection h with h2 _
  injection h1 with h1
  injection h2 with h2
  injection h1 with x1 h1
  injection h1 with x2 _
  injection h2 with x3 h2
  injection h2 with x4 _
  injection x1 with x1
  injection x2 with x2
  injection x3 with x3
  injection x4 with x4
  subst x1 x2 x3 x4
  rfl
/-- at b the cell c -/
def CellAt (H : Hp) (b : Addr) (c : Cell) : Prop := H b = some (.tup [.int c.1, .int c.2])
/-- at b the pair of cells e -/
def EdgeAt (H : Hp) (b : Addr) (e : Edge) : Prop := ∃ b1 b2, H b = some (.tup [.ref b1, .ref b2]) ∧ CellAt H b1 e.1 ∧ CellAt H b2 e.2
theorem CellAt.mono {H H' : Hp} {b : Addr} {c : Cell} (t : Tm H H') (h : CellAt H b c) : CellAt H' b c := t _ _ h trivial
theorem EdgeAt.mono {H H' : Hp} {b : Addr} {e : Edge} (t : Tm H H') (h : EdgeAt H b e) : EdgeAt H' b e := by
  obtain ⟨b1, b2, h0, h1, h2⟩ := h
  exact ⟨b1, b2, t _ _ h0 trivial, h1.mono t, h2.mono t⟩
/-- at d the entries xs -/
def tiedO (P : Program) (w : World) (d : Addr) (xs : List (NestedKey × Addr × Value)) : HO := .ext fun h => ∃ o es ep, h.get? d = some o ∧ o.ExactDict ∧ o.data = .dict es ep ∧ es.toList = xs.map (entryOfKey (nestedKind P w)) ∧ (d == sysModules) = false
/-- at d a dict whose keys are the pairs L -/
def TiedAt (P : Program) (w : World) (H : Hp) (d : Addr) (L : List Edge) : Prop := ∃ xs, H d = some (tiedO P w d xs) ∧ (xs.map (·.1)).Nodup ∧ (∀ x ∈ xs, ∃ e, x.1 = nk e ∧ EdgeAt H x.2.1 e) ∧ (∀ e, e ∈ L ↔ nk e ∈ xs.map (·.1)) ∧ xs.length ≤ L.length
theorem TiedAt.mono {P : Program} {w : World} {H H' : Hp} {d : Addr} {L : List Edge} (h : TiedAt P w H d L) (hd : H' d = H d) (t : Tm H H') : TiedAt P w H' d L := by
  obtain ⟨xs, h0, h1, h2, h3, h4⟩ := h
  refine ⟨xs, hd.trans h0, h1, fun x hx => ?_, h3, h4⟩
  obtain ⟨e, a, b⟩ := h2 x hx
  exact ⟨e, a, b.mono t⟩
theorem TiedAt.some {P : Program} {w : World} {H : Hp} {d : Addr} {L : List Edge} (h : TiedAt P w H d L) : ∃ xs, H d = some (tiedO P w d xs) := by
  obtain ⟨xs, h0, _⟩ := h
  exact ⟨xs, h0⟩
section
variable {X : Cx} {pins : List (Addr × Obj)} {σ : L2.St} {H : Hp} {s : Shared}
theorem cell_is (I : L2.Inv X pins σ H s) {b : Addr} {c : Cell} (h : CellAt H b c) : NestedIs s.heap (nkC c) (.ref b) := by
  obtain ⟨_, its, rv, o, h1, h2, n, h3⟩ := (show ObjOk X.prog X.w H s.heap b (.tup [.int c.1, .int c.2]) from I.hok b _ h)
  refine .tup h1 h2 h3 ?_
  cases rv with
  | cons r1 rv =>
    cases rv with
    | cons r2 rv =>
      cases rv
      obtain ⟨t1, rfl⟩ := r1
      obtain ⟨t2, rfl⟩ := r2
      exact .cons (.int _ _) (.cons (.int _ _) .nil)
theorem edge_is (I : L2.Inv X pins σ H s) {b : Addr} {e : Edge} (h : EdgeAt H b e) : (nestedKind X.prog X.w).is s.heap (nk e) b := by
  obtain ⟨b1, b2, h0, h1, h2⟩ := h
  obtain ⟨_, its, rv, o, g1, g2, n, g3⟩ := (show ObjOk X.prog X.w H s.heap b (.tup [.ref b1, .ref b2]) from I.hok b _ h0)
  refine ⟨.tup g1 g2 g3 ?_, ?_⟩
  · cases rv with
    | cons r1 rv =>
      cases rv with
      | cons r2 rv =>
        cases rv
        cases r1
        cases r2
        exact .cons (cell_is I h1) (.cons (cell_is I h2) .nil)
  · simp [nk, nkC, NestedKey.depth, NestedKey.depthAll]
theorem tied_dict (I : L2.Inv X pins σ H s) {d : Addr} {xs : List (NestedKey × Addr × Value)} (h0 : H d = some (tiedO X.prog X.w d xs)) (h1 : (xs.map (·.1)).Nodup) (h2 : ∀ x ∈ xs, ∃ e, x.1 = nk e ∧ EdgeAt H x.2.1 e) : s.heap.DictOfH (nestedKind X.prog X.w) d xs ∧ (d == sysModules) = false := by
  have z : ObjOk X.prog X.w H s.heap d (.ext fun h => ∃ o es ep, h.get? d = some o ∧ o.ExactDict ∧ o.data = .dict es ep ∧ es.toList = xs.map (entryOfKey (nestedKind X.prog X.w)) ∧ (d == sysModules) = false) := I.hok d _ h0
  obtain ⟨⟨o, es, ep, a1, a2, a3, a4, a5⟩, _⟩ := z
  refine ⟨⟨o, es, ep, a1, a2, a3, a4, fun x hx => ?_, h1⟩, a5⟩
  obtain ⟨e, b1, b2⟩ := h2 x hx
  rw [b1]
  exact edge_is I b2
theorem at_none {xs : List (NestedKey × Addr × Value)} {k : NestedKey} : (atKey xs k).isSome = decide (k ∈ xs.map (·.1)) := by
  unfold atKey
  rw [Option.isSome_map]
  induction xs with
  | nil => simp
  | cons x xs ih =>
    by_cases h : x.1 = k
    · rw [List.find?_cons_of_pos (by simpa using h)]
      simp [h]
    · rw [List.find?_cons_of_neg (by simpa using h), ih]
      have h2 : k ≠ x.1 := fun z => h z.symm
      simp [h2]
theorem stored_keys {xs : List (NestedKey × Addr × Value)} {k : NestedKey} {b : Addr} {v : Value} : (k ∈ xs.map (·.1) ∧ (storedH xs k b v).map (·.1) = xs.map (·.1) ∧ (∀ x ∈ storedH xs k b v, ∃ y ∈ xs, y.1 = x.1 ∧ y.2.1 = x.2.1)) ∨ (k ∉ xs.map (·.1) ∧ storedH xs k b v = xs ++ [(k, b, v)]) := by
  by_cases h : k ∈ xs.map (·.1)
  · refine .inl ⟨h, ?_, ?_⟩
    · unfold storedH
      rw [at_none, decide_eq_true h, if_pos rfl, List.map_map]
      refine List.map_congr_left fun x _ => ?_
      show (putAt k v x).1 = x.1
      unfold putAt
      split <;> rfl
    · intro x hx
      unfold storedH at hx
      rw [at_none, decide_eq_true h, if_pos rfl] at hx
      obtain ⟨y, hy, rfl⟩ := List.mem_map.mp hx
      refine ⟨y, hy, ?_⟩
      unfold putAt
      split <;> exact ⟨rfl, rfl⟩
  · refine .inr ⟨h, ?_⟩
    unfold storedH
    rw [at_none, decide_eq_false h, if_neg (by simp)]
variable {o i e value : Expr} {pos pos' tpos : Pos} {td ty tv : TE}
/-- e in d, d a dict of pairs -/
theorem pc_tin (hu : X.A.units + 64 < cLine) (hi : PE X i ty) (ho : PE X o td) : PC X .In i o (fun σ H Q => ty σ H fun y H1 => td σ H1 fun x H2 => ∃ d L b e, x = .ref d ∧ y = .ref b ∧ TiedAt X.prog X.w H2 d L ∧ EdgeAt H2 b e ∧ Q (.bl (decide (e ∈ L))) H2) := by
  refine ⟨fun pins s σ H Q I h => ?_⟩
  refine thn (hi.run pins s σ H _ I h) fun iv s1 ⟨y, H1, I1, ry, q1⟩ => thn (ho.run pins s1 σ H1 _ I1 q1) fun u s2 ⟨x, H2, I2, rx, d, L, b, e, ex, ey, ⟨xs, h0, h1, h2, h3, _⟩, he, q2⟩ => ?_
  subst ex ey
  obtain rfl : u = Value.ref d := rx
  obtain rfl : iv = Value.ref b := ry
  obtain ⟨dd, hd⟩ := tied_dict I2 h0 h1 h2
  refine wpAny_in_heap (by show X.A.units + 1 + 8 < cLine; omega) (edge_is I2 he) hd dd ?_
  rw [at_none, show decide (nk e ∈ xs.map (·.1)) = decide (e ∈ L) from by simp only [← h3 e]]
  exact ⟨.bl _, H2, I2.tok _, rfl, q2⟩
/-- d[e] = v, d a dict of pairs -/
theorem ps_tput (hu : X.A.units + 64 < cLine) (ho : PE X o td) (hi : PE X i ty) (hv : PE X value tv) (hs : swapsWith value (some (.Subscript o i pos')) pos.line X.env = pure false) :
    PS X (.Assign [.Subscript o i pos'] value pos) (fun D σ H => tv σ H fun _ H1 => td σ H1 fun x H2 => ty σ H2 fun y H3 => ∃ d L b e, x = .ref d ∧ y = .ref b ∧ TiedAt X.prog X.w H3 d L ∧ EdgeAt H3 b e ∧ L.length ≤ 10000 ∧ ∀ H4, (∀ a, a ≠ d → H4 a = H3 a) → TiedAt X.prog X.w H4 d (L ++ [e]) → D.nx σ H4) := by
  refine ⟨fun pins s σ H D I h => ?_⟩
  refine wpAny_Assign_Subscript (thn (hv.run pins s σ H _ I h) fun r s1 ⟨v, H1, I1, rv, q1⟩ => thn (ho.run pins s1 σ H1 _ I1 q1) fun u s2 ⟨x, H2, I2, rx, q2⟩ => thn (hi.run pins s2 σ H2 _ I2 q2) fun iv s3 ⟨y, H3, I3, ry, d, L, b, e, ex, ey, ⟨xs, h0, h1, h2, h3, h4⟩, he, hL, q3⟩ => ?_) hs
  subst ex ey
  obtain rfl : u = Value.ref d := rx
  obtain rfl : iv = Value.ref b := ry
  obtain ⟨dd, hd⟩ := tied_dict I3 h0 h1 h2
  have hz : xs.length ≤ sizeLine := Nat.le_trans (Nat.le_trans h4 hL) (by decide)
  refine wpAny_setItem_heap (hsz := hz) (by show X.A.units + 1 + 8 < cLine; omega) (edge_is I3 he) dd fun h' dd' hs' => ?_
  obtain ⟨ob, es, ep, a1, a2, a3, a4, a5, a6⟩ := dd'
  have ne : ∀ {c : Addr} {ys : List V}, H3 c = some (.tup ys) → c ≠ d := fun {c ys} z => ne_of z h0 (fun q => by
    have q' : HO.tup ys = HO.ext _ := q
    cases q')
  have J : L2.Inv X pins σ (L2.upd H3 d (tiedO X.prog X.w d (storedH xs (nk e) b r))) { s3 with heap := h', toks := s3.toks + (nestedKind X.prog X.w).draws (nk e) } :=
    d_write I3 (by rw [h0]; exact True.intro) hs' ⟨ob, a1⟩ ⟨⟨ob, es, ep, a1, a2, a3, a4, hd⟩, ⟨ob, a1⟩, fun g1 g2 ⟨o', es', ep', c1, c2⟩ k => ⟨o', es', ep', k _ c1, c2⟩⟩
  have tm : Tm H3 (L2.upd H3 d (tiedO X.prog X.w d (storedH xs (nk e) b r))) := Tm.upd fun u z => by
    rw [h0] at z
    cases z
    exact fun q => q
  refine ⟨σ, _, J, q3 _ (fun a ha => upd_ne ha) ⟨_, upd_same, a6, fun x hx => ?_, fun f => ?_, ?_⟩⟩
  · rcases stored_keys (xs := xs) (k := nk e) (b := b) (v := r) with ⟨_, _, k3⟩ | ⟨_, k2⟩
    · obtain ⟨y, hy, e1, e2⟩ := k3 x hx
      obtain ⟨f, g1, g2⟩ := h2 y hy
      rw [← e1, ← e2]
      exact ⟨f, g1, g2.mono tm⟩
    · rw [k2] at hx
      rcases List.mem_append.mp hx with z | z
      · obtain ⟨f, g1, g2⟩ := h2 x z
        exact ⟨f, g1, g2.mono tm⟩
      · rw [List.mem_singleton.mp z]
        exact ⟨e, rfl, he.mono tm⟩
  · rw [List.mem_append, List.mem_singleton, h3 f]
    rcases stored_keys (xs := xs) (k := nk e) (b := b) (v := r) with ⟨k1, k2, _⟩ | ⟨_, k2⟩
    · rw [k2]
      constructor
      · rintro (z | rfl)
        · exact z
        · exact k1
      · exact .inl
    · rw [k2, List.map_append, List.mem_append]
      constructor
      · rintro (z | rfl)
        · exact .inl z
        · exact .inr (List.mem_singleton.mpr rfl)
      · rintro (z | z)
        · exact .inl z
        · exact .inr (nk_inj (List.mem_singleton.mp z))
  · rw [List.length_append, List.length_singleton]
    rcases stored_keys (xs := xs) (k := nk e) (b := b) (v := r) with ⟨_, k2, _⟩ | ⟨_, k2⟩
    · have := congrArg List.length k2
      rw [List.length_map, List.length_map] at this
      omega
    · rw [k2, List.length_append, List.length_singleton]
      omega
/-- {}, for pairs -/
theorem pe_tnew : PE X (.Dict [] [] pos) (fun _ H Q => ∀ d, H d = none → ∀ H', (∀ a, a ≠ d → H' a = H a) → TiedAt X.prog X.w H' d [] → Q (.ref d) H') := ⟨fun pins s σ H Q I h => by
  have nz : (s.heap.objs.size == sysModules) = false := beq_eq_false_iff_ne.mpr (Ne.symm (Nat.ne_of_lt I.big))
  have new : (s.heap.push { cls := .type "dict", data := .dict #[] }).get? s.heap.objs.size = some ({ cls := .type "dict", data := .dict #[] } : Obj) := Heap.get?_push_size _ rfl
  have J : L2.Inv X pins σ (L2.upd H s.heap.objs.size (tiedO X.prog X.w s.heap.objs.size [])) { s with heap := s.heap.push { cls := .type "dict", data := .dict #[] }, toks := s.toks } :=
    I.laid (fun _ _ q => Heap.get?_push_of_some _ q) (Nat.le_refl _) ⟨⟨_, #[], 0, new, ⟨rfl, rfl, rfl⟩, rfl, rfl, nz⟩, ⟨_, new⟩, fun g1 g2 ⟨o', es', ep', c1, c2⟩ k => ⟨o', es', ep', k _ c1, c2⟩⟩
  exact wpAny_Dict_empty ⟨.ref s.heap.objs.size, _, J, rfl, h _ (I.hok.fresh (Nat.le_refl _)) _ (fun a ha => upd_ne ha) ⟨[], upd_same, List.nodup_nil, fun x hx => (nomatch hx), fun e => ⟨fun z => (nomatch z), fun z => (nomatch z)⟩, Nat.le_refl _⟩⟩⟩
end
end HT
/-! dicts with cells as keys: d.pop(k), sorted(d), {k: v} -/
namespace HT
open PySem PySem.Spec PyProof.Rows L2 HD
open PySem.W (KdlSrc EachIs)
section
variable {X : Cx}
/-- d.pop(k), k is there -/
theorem mt_pop1T (hu : X.A.units + 1 < cLine) : MtR X "dict.pop" (fun x xs H Q => ∃ (a : Addr) (kvs : List (List L2.Key × V)) (k : List L2.Key) (b : Addr) (v : V), x = .ref a ∧ xs = [.ref b] ∧ H a = some (.dT kvs) ∧ H b = some (.tup (k.map kV)) ∧ valV kvs k = some v ∧ Q v (L2.upd H a (.dT (dropK kvs k)))) := by
  intro pins s σ H x xs v us Q I rx rxs h
  obtain ⟨a, kvs, k, b, v1, rfl, rfl, ha, hb, hv, q⟩ := h
  cases rx
  obtain ⟨u1, rfl, r1⟩ := vals1 rxs
  cases r1
  obtain ⟨z, hd, xs', rel, dd⟩ := dt_of I.hok ha
  have hz : xs'.length ≤ sizeLine := by rw [← Paired.length rel]; exact z
  have r := rel.val k
  rw [hv] at r
  obtain ⟨p, hp, rv⟩ : ∃ p, atKey xs' k = some p ∧ RelV v1 p.2 := by
    cases e : atKey xs' k with
    | none => rw [e] at r; exact (show False from r).elim
    | some p => rw [e] at r; exact ⟨p, rfl, r⟩
  refine call_pop_heap (hsz := hz) (more := []) (.inl rfl) (PySem.F.args_dict_pop_2 _ _) (tupleKind_room_in1 hu) (key_of I.hok hb) hd dd hp fun h' dd' hs => ?_
  obtain ⟨o, es, ep, hq, h2, h3, h4, _, h5⟩ := dd'
  have J : L2.Inv X pins σ (L2.upd H a (.dT (dropK kvs k))) { s with heap := h', toks := s.toks + (tupleKind (mixKind X.prog X.w)).draws k } :=
    d_write (ob := .dT (dropK kvs k)) I (by rw [ha]; exact True.intro) hs ⟨o, hq⟩ ⟨Nat.le_trans (dropK_le kvs k) z, hd, _, (L2.DX.KT_drop k rel).keeps (fun c ys ec => (by rw [upd_ne (ne_of ec ha (fun z => nomatch z))]; exact ec)), o, es, ep, hq, h2, h3, h4, h5⟩
  exact ⟨v1, _, J, rv, q⟩
end
section
variable {prog : Program} {w : World} {A : Around} {E : Value → Shared → Prop} {s : Shared} {T : String} {r d : Addr} {n : Nat} {P : Nat → Value → Prop} {OK : Heap → Prop}
/-- what a walkable thing yields, collected -/
theorem kdl_collect {R : List Value → Shared → Prop} (K : KdlSrc prog w T r d n P OK) (hh : A.handled = none) (hok : OK s.heap) (hn : n ≤ sizeLine)
    (h : ∀ (h' : Heap) (tk : Nat) (acc : Array Value), (∀ b o, s.heap.get? b = some o → h'.get? b = some o) → ItemsOf P acc n → R acc.toList { s with heap := h', toks := tk }) :
    wpAny (model prog w) A (collect (.ref r)) R E s := by
  have hlt := K.there _ hok
  unfold collect
  refine wpAny_bind (wpAny_runValue (codeAny_builtin PySem.F.entry_proto_collect ?_))
  rw [Around.under_plainId PySem.F.plain_proto_collect _]
  show wpAny _ A.in1 (newList [] >>= fun l => again (.builtin "list.__iadd__" ⟨[l, .ref r], []⟩)) _ _ s
  refine wpAny_bind (wpAny_newObj_type ?_)
  refine wpAny_pure ⟨plainId_quiet PySem.F.plain_list_iadd _, codeAny_builtin PySem.F.entry_list_iadd ?_⟩
  rw [Around.under_plainId PySem.F.plain_list_iadd _]
  have hS : (s.heap.push { cls := .type "list", data := .seq ([] : List Value).toArray }).get? s.heap.objs.size = some { cls := .type "list", data := .seq #[] } := Heap.get?_push_size _ rfl
  show wpAny _ A.in1 (Builtin.List.listExtendWith (.ref s.heap.objs.size) (.ref r) (.ref s.heap.objs.size)) _ _ _
  have key := PySem.W.kdl_extend (A := A) (s := { s with heap := s.heap.push { cls := .type "list", data := .seq ([] : List Value).toArray } })
    (R := fun (q : Result) (s' : Shared) => ∃ (h' : Heap) (tk : Nat) (acc' : Array Value) (c' : Nat), q = .ok (.ret (.ref s.heap.objs.size)) ∧ s' = { s with heap := h', toks := tk } ∧ (∀ b o, s.heap.get? b = some o → h'.get? b = some o) ∧ h'.get? s.heap.objs.size = some { cls := .type "list", dict := none, data := .seq acc' c', slots := #[] } ∧ ItemsOf P acc' n)
    K hh (K.keep _ _ hok fun b _ o e => Heap.get?_push_of_some _ e) s.heap.objs.size (Nat.ne_of_gt hlt.1) (Nat.ne_of_gt hlt.2) (.ref s.heap.objs.size) 0 hS
    (fun h' tk acc' c' hk hS' hacc => ⟨h', tk, acc', c', rfl, rfl, fun b o e => hk b o (Nat.ne_of_lt (Heap.lt_size e)) (Heap.get?_push_of_some _ e), hS', hacc⟩) hn
  refine wpAny_mono key (fun fin s' x => ?_) fun e s' x => ?_
  · cases fin with
    | done f =>
      obtain ⟨h', tk, acc', c', e, rfl, hk, hS', hacc⟩ := x
      cases e
      show wpAny _ A (load s.heap.objs.size >>= _) _ _ _
      exact wpAny_bind (wpAny_load hS' (wpAny_pure (h h' tk acc' hk hacc)))
    | again c₁ =>
      refine ⟨x.1, codeAny_mono x.2 fun q s₂ y => ?_⟩
      obtain ⟨h', tk, acc', c', rfl, rfl, hk, hS', hacc⟩ := y
      show wpAny _ A (load s.heap.objs.size >>= _) _ _ _
      exact wpAny_bind (wpAny_load hS' (wpAny_pure (h h' tk acc' hk hacc)))
  · obtain ⟨_, _, _, _, e', _⟩ := x
    cases e'
end
/-- a cell as data -/
def encC (c : Cell) : PyData := .tuple [.int c.1, .int c.2]
def keyC (c : Cell) : List L2.Key := [.inl c.1, .inl c.2]
theorem td_cell {K : PySem.W.Frag} {H : Hp} {b : Addr} {c : Cell} (h : CellAt H b c) : Td K H (.ref b) (encC c) := .tup (SqT.of h) (.cons (.int _) (.cons (.int _) .nil))
theorem alike_cell (c d : Cell) : PySem.W.alike (encC c) (encC d) = true := by simp [encC, PySem.W.alike, PySem.W.alikeAll]
section
variable {X : Cx}
/-- sorted(d), d a dict of cells: the cells in some sequence -/
inductive rSortT (vs : List V) (H : Hp) (Q : VK) : Prop
  | mk (a : Addr) (cs : List (Cell × V)) (e : vs = [.ref a]) (h : H a = some (.dT (cs.map fun x => (keyC x.1, x.2))))
      (q : ∀ (p : Addr) (bs : List (Addr × Cell)), H p = none → (bs.map (·.2)).Perm (cs.map (·.1)) → (∀ b ∈ bs, CellAt H b.1 b.2) → Q (.ref p) (L2.upd H p (.lst (bs.map fun b => .ref b.1))))
theorem cr_sortT (hc : X.calm = true) (hu : X.A.units + 64 < cLine) : CallR X (.builtin "sorted") rSortT := by
  intro pins s σ H vs us Q I r h
  obtain ⟨a, cs, rfl, ha, q⟩ := h
  rw [Vals.ref1 r]
  obtain ⟨z, hs, ks, pr, o, es, ep, ho, hx, hdt, he, hn⟩ := (show ObjOk X.prog X.w H s.heap a (.dT (cs.map fun x => (keyC x.1, x.2))) from I.hok a _ ha)
  have l1 : es.size = ks.length := size_of_entries he
  have l2 : (cs.map fun x => (keyC x.1, x.2)).length = ks.length := Paired.length pr
  rw [List.length_map] at l2
  let bs : List (Addr × Cell) := (ks.map fun x => x.2.1).zip (cs.map (·.1))
  have hb2 : bs.map (·.2) = cs.map (·.1) := List.map_snd_zip (by rw [List.length_map, List.length_map]; omega)
  have hb1 : bs.map (·.1) = ks.map fun x => x.2.1 := List.map_fst_zip (by rw [List.length_map, List.length_map]; omega)
  have hcell : ∀ b ∈ bs, CellAt H b.1 b.2 := fun b hb => by
    obtain ⟨i, hi⟩ := List.mem_iff_getElem?.mp hb
    obtain ⟨h1, h2⟩ := List.getElem?_zip_eq_some.mp hi
    rw [List.getElem?_map] at h1 h2
    cases e1 : ks[i]? with
    | none => rw [e1] at h1; cases h1
    | some k =>
      cases e2 : cs[i]? with
      | none => rw [e2] at h2; cases h2
      | some c =>
        rw [e1] at h1
        rw [e2] at h2
        obtain ⟨p, hp, g1, g2, _⟩ := L2.DX.pget pr e1
        rw [List.getElem?_map, e2] at hp
        cases hp
        have f1 : k.2.1 = b.1 := Option.some.inj h1
        have f2 : c.1 = b.2 := Option.some.inj h2
        rw [← f1, ← f2]
        exact g2
  have nz : ∀ (acc : Array Value), ItemsOf (fun i v => ∃ en : DictEntry, es[i]? = some en ∧ v = en.key) acc es.size → acc.toList = bs.map fun b => Value.ref b.1 := fun acc it => by
    have hl : acc.toList.length = ks.length := by rw [Array.length_toList, it.1]; exact l1
    have hr : (bs.map fun b => Value.ref b.1) = ks.map fun x => Value.ref x.2.1 := by
      have := congrArg (List.map Value.ref) hb1
      rw [List.map_map, List.map_map] at this
      exact this
    rw [hr]
    refine List.ext_getElem? fun j => ?_
    rw [List.getElem?_map]
    cases hj : acc.toList[j]? with
    | none =>
      have h1 := List.getElem?_eq_none_iff.mp hj
      rw [List.getElem?_eq_none (by omega)]
      rfl
    | some v =>
      obtain ⟨en, hen, hv⟩ := it.2 j v (by rw [← Array.getElem?_toList]; exact hj)
      have qe := entry_at he j
      rw [hen] at qe
      cases hb : ks[j]? with
      | none => rw [hb] at qe; exact nomatch (show some en = none from qe)
      | some b =>
        rw [hb] at qe
        have e2 : en = entryOfKey (tupleKind (mixKind X.prog X.w)) b := Option.some.inj qe
        rw [hv, e2]
        rfl
  have hbl : bs.length = ks.length := by
    have := congrArg List.length hb1
    rw [List.length_map, List.length_map] at this
    exact this
  have hz : (bs.map fun b => Value.ref b.1).length ≤ sizeLine := by
    rw [List.length_map, hbl, ← l2]
    rw [List.length_map] at z
    exact z
  have each : ∀ l : List (Addr × Cell), EachIs (fun v (b : Addr × Cell) => v = Value.ref b.1) (l.map fun b => Value.ref b.1) l := fun l => by
    induction l with
    | nil => exact .nil
    | cons b l ih => exact .cons rfl ih
  have back : ∀ {l : List (Addr × Cell)} {out : List Value}, EachIs (fun v (b : Addr × Cell) => v = Value.ref b.1) out l → Vals (l.map fun b => V.ref b.1) out := fun {l out} h => by
    induction h with
    | nil => exact .nil
    | cons h _ ih => exact .cons h ih
  have rd : ∀ l : List (Addr × Cell), (∀ b ∈ l, CellAt H b.1 b.2) → EachIs (fun v (b : Addr × Cell) => ∃ as, Reads s.heap v (encC b.2) as) (l.map fun b => Value.ref b.1) l := fun l hl => by
    induction l with
    | nil => exact .nil
    | cons b l ih =>
      refine .cons ?_ (ih fun c hc => hl c (List.mem_cons_of_mem _ hc))
      exact Dp.reads I (encC b.2) (.ref b.1) (.ref b.1) (td_cell (K := X.K) (hl b (List.mem_cons_self ..))).dp rfl
  refine sorted_dataG (bs := bs) (enc := fun b => encC b.2) (R := fun v (b : Addr × Cell) => v = Value.ref b.1) hz (fun E' Q' hq => kdl_collect (kdl_raw hs hx hdt) (I.ok.hd hc) ho (by rw [l1, ← hbl]; simpa using hz) fun h' tk acc kp it => ?_) (each bs) (rd bs hcell)
    (PySem.W.AllAlike.of fun b b' => alike_cell b.2 b'.2) (PySem.W.Sortable.tuples fun b => ⟨_, _, rfl⟩) (fun b hb => ?_) fun h' tk p out k hp ⟨n, hop⟩ hl he' => ?_
  · rw [nz acc it]
    exact hq h' tk kp
  · show X.A.units + 2 + 1 < cLine
    omega
  · have pm := List.mergeSort_perm bs (PySem.W.dataLe false fun b => encC b.2)
    refine ⟨.ref p, L2.upd H p (.lst ((bs.mergeSort (PySem.W.dataLe false fun b => encC b.2)).map fun b => V.ref b.1)), I.laidN (t' := tk) k hp (I.hok.gone hp) ⟨?_, out, n, back he', hop⟩, rfl, q p _ (I.hok.gone hp) ?_ fun b hb => hcell b (pm.mem_iff.mp hb)⟩
    · rw [List.length_map, List.length_mergeSort]
      simpa using hz
    · have := pm.map (·.2)
      rw [hb2] at this
      exact this
/-- {k: v}, k a cell -/
theorem pe_disp1T {k v : Expr} {pos : Pos} {tk tv : TE} (hu : X.A.units + 64 < cLine) (hk : PE X k tk) (hv : PE X v tv) :
    PE X (.Dict [some k] [v] pos) (fun σ H Q => ∀ d, H d = none → tk σ (L2.upd H d (.dT [])) fun x H1 => tv σ H1 fun y H2 => ∃ b key, x = .ref b ∧ H2 b = some (.tup (List.map kV key)) ∧ H2 d = some (.dT []) ∧ Q (.ref d) (L2.upd H2 d (.dT [(key, y)]))) := by
  refine ⟨fun pins s σ H Q I h => ?_⟩
  have new : H s.heap.objs.size = none := I.hok.fresh (Nat.le_refl _)
  have I0 : L2.Inv X pins σ (L2.upd H s.heap.objs.size (.dT [])) { s with heap := s.heap.push { cls := .type "dict", data := .dict #[] }, toks := s.toks } := I.laid (fun _ _ q => Heap.get?_push_of_some _ q) (Nat.le_refl _) (dt_empty s.heap I.big)
  rw [arm_eval_Dict, zip_pairTrees [some k] [v] X.env pos rfl rfl, dictDisplay_pairs (pairTrees [some k] [v] X.env pos) (by intro e; cases e) (by show 1 < 17; decide)]
  refine wpAny_bind (wpAny_standAt (wpAny_bind (wpAny_subDictH (knd := tupleKind (mixKind X.prog X.w)) (Q := fun d s' => wpAny (model X.prog X.w) X.A (pure (Value.ref d)) (EP X pins σ Q) X.xe s') (by show X.A.units < cLine; omega) (by show 1 ≤ 15; decide) ?_)))
  refine pairTrees_cons_walk (thn (hk.run pins _ σ _ _ I0 (h _ new)) fun u s1 ⟨x, H1, I1, rx, q1⟩ => thn (hv.run pins s1 σ H1 _ I1 q1) fun w2 s2 ⟨y, H2, I2, ry, b, key, ex, hb, hd, q2⟩ => pairTrees_nil_walk ?_)
  subst ex
  obtain rfl : u = Value.ref b := rx
  obtain ⟨_, nz, xs', rel, dd⟩ := dt_of I2.hok hd
  have e0 : xs' = [] := by
    cases rel
    rfl
  subst e0
  refine ⟨[(key, b, w2)], ⟨rfl, rfl, key_of I2.hok hb, trivial⟩, dd, fun h' tk dd' hs => wpAny_pure ?_⟩
  obtain ⟨o, es, ep, hq, g2, g3, g4, _, g5⟩ := dd'
  have J : L2.Inv X pins σ (L2.upd H2 s.heap.objs.size (.dT [(key, y)])) { s2 with heap := h', toks := tk } :=
    d_write (ob := .dT [(key, y)]) I2 (by rw [hd]; exact True.intro) hs ⟨o, hq⟩ ⟨by show 1 ≤ sizeLine; decide, nz, [(key, b, w2)], .cons ⟨rfl, by rw [upd_ne (ne_of hb hd (fun z => nomatch z))]; exact hb, ry⟩ .nil, o, es, ep, hq, g2, g3, g4, g5⟩
  exact ⟨.ref s.heap.objs.size, _, J, rfl, q2⟩
end
end HT
namespace K2
open PySem PyProof.Rows L2 HD HT
/-! ### cells, in plain words -/
def nbrs (c : Cell) : List Cell := [(c.1, c.2 + 1), (c.1 + 1, c.2), (c.1, c.2 - 1), (c.1 - 1, c.2)]
def absI (i : Int) : Int := if i < 0 then -i else i
def inBox (w : Int) (c : Cell) : Bool := decide (absI c.1 < w) && decide (absI c.2 < w)
def cellLt (a b : Cell) : Bool := decide (a.1 < b.1) || (decide (a.1 = b.1) && decide (a.2 < b.2))
/-- the pair as it is kept -/
def key (a b : Cell) : Edge := if cellLt b a then (b, a) else (a, b)
theorem nbrs_symm {a b : Cell} (h : b ∈ nbrs a) : a ∈ nbrs b := by
  obtain ⟨x, y⟩ := a
  obtain ⟨u, v⟩ := b
  simp only [nbrs, List.mem_cons, List.not_mem_nil, or_false, Prod.mk.injEq] at h ⊢
  omega
theorem nbrs_self (a : Cell) : a ∉ nbrs a := by
  obtain ⟨x, y⟩ := a
  simp only [nbrs, List.mem_cons, List.not_mem_nil, or_false, Prod.mk.injEq, not_or]
  omega
theorem nbrs_nodup (a : Cell) : (nbrs a).Nodup := by
  obtain ⟨x, y⟩ := a
  simp only [nbrs, List.nodup_cons, List.mem_cons, List.not_mem_nil, or_false, Prod.mk.injEq, not_or, List.nodup_nil, not_false_eq_true, and_true]
  omega
theorem cellLt_asym {a b : Cell} (h : a ≠ b) : cellLt b a = !cellLt a b := by
  obtain ⟨x, y⟩ := a
  obtain ⟨u, v⟩ := b
  have h' : ¬ (x = u ∧ y = v) := fun z => h (by rw [z.1, z.2])
  unfold cellLt
  rw [Bool.eq_iff_iff]
  simp only [Bool.or_eq_true, Bool.and_eq_true, decide_eq_true_eq, Bool.not_eq_true', Bool.or_eq_false_iff, Bool.and_eq_false_iff, decide_eq_false_iff_not]
  omega
theorem key_symm {a b : Cell} (h : a ≠ b) : key a b = key b a := by
  unfold key
  rw [cellLt_asym h]
  cases cellLt a b <;> rfl
theorem key_or (a b : Cell) : key a b = (a, b) ∨ key a b = (b, a) := by
  unfold key
  split
  · exact .inr rfl
  · exact .inl rfl
/-- all cells of the box -/
def boxL (w : Nat) : List Cell := (List.range (2 * w - 1)).flatMap fun (i : Nat) => (List.range (2 * w - 1)).map fun (j : Nat) => ((i : Int) - ((w : Int) - 1), (j : Int) - ((w : Int) - 1))
theorem reach {w : Nat} {C : List Cell} (h0 : (0, 0) ∈ C) (hcl : ∀ c ∈ C, ∀ o ∈ nbrs c, inBox w o = true → o ∈ C) : ∀ (n : Nat) (c : Cell), c.1.natAbs + c.2.natAbs = n → inBox w c = true → c ∈ C := by
  intro n
  induction n with
  | zero =>
    intro c hn _
    obtain ⟨x, y⟩ := c
    dsimp only at hn
    rw [show x = 0 by omega, show y = 0 by omega]
    exact h0
  | succ n ih =>
    intro c hn hb
    obtain ⟨x, y⟩ := c
    dsimp only at hn
    have hb' := hb
    unfold inBox absI at hb'
    simp only [Bool.and_eq_true, decide_eq_true_eq] at hb'
    have step : ∀ d : Cell, d.1.natAbs + d.2.natAbs = n → (absI d.1 < w) → (absI d.2 < w) → (x, y) ∈ nbrs d → (x, y) ∈ C := fun d e1 e2 e3 e4 => hcl d (ih d e1 (by unfold inBox; rw [Bool.and_eq_true]; exact ⟨decide_eq_true e2, decide_eq_true e3⟩)) _ e4 hb
    rcases Int.lt_trichotomy x 0 with hx | hx | hx
    · refine step (x + 1, y) (by dsimp only; omega) ?_ ?_ (by simp [nbrs])
      · show absI (x + 1) < w
        unfold absI
        split at hb' <;> split <;> omega
      · show absI y < w
        unfold absI
        exact hb'.2
    · rcases Int.lt_trichotomy y 0 with hy | hy | hy
      · refine step (x, y + 1) (by dsimp only; omega) ?_ ?_ (by simp [nbrs])
        · show absI x < w
          unfold absI
          exact hb'.1
        · show absI (y + 1) < w
          have := hb'.2
          unfold absI
          split at this <;> split <;> omega
      · omega
      · refine step (x, y - 1) (by dsimp only; omega) ?_ ?_ (by simp [nbrs])
        · show absI x < w
          unfold absI
          exact hb'.1
        · show absI (y - 1) < w
          have := hb'.2
          unfold absI
          split at this <;> split <;> omega
    · refine step (x - 1, y) (by dsimp only; omega) ?_ ?_ (by simp [nbrs])
      · show absI (x - 1) < w
        have := hb'.1
        unfold absI
        split at this <;> split <;> omega
      · show absI y < w
        unfold absI
        exact hb'.2
/-- below n cells there is always one more to take -/
def Roomy (w : Nat) (n : Nat) : Prop := ∀ C : List Cell, (0, 0) ∈ C → C.length < n → ∃ c ∈ C, ∃ o ∈ nbrs c, o ∉ C ∧ inBox w o = true
theorem roomy_of {w n : Nat} (nd : (boxL w).Nodup) (hb : ∀ c ∈ boxL w, inBox w c = true) (hn : n ≤ (boxL w).length) : Roomy w n := fun C h0 hl => by
  by_cases h : ∃ c ∈ C, ∃ o ∈ nbrs c, o ∉ C ∧ inBox w o = true
  · exact h
  · have cl : ∀ c ∈ C, ∀ o ∈ nbrs c, inBox w o = true → o ∈ C := fun c hc o ho hi => by
      by_cases ho2 : o ∈ C
      · exact ho2
      · exact absurd ⟨c, hc, o, ho, ho2, hi⟩ h
    have := nodup_le nd fun c hc => reach h0 cl _ c rfl (hb c hc)
    omega
theorem roomy3 : Roomy 3 12 := roomy_of (by decide +kernel) (by decide +kernel) (by decide +kernel)
theorem roomy5 : Roomy 5 40 := roomy_of (by decide +kernel) (by decide +kernel) (by decide +kernel)
/-- the free cells beside c -/
def free (C : List Cell) (w : Int) (c : Cell) : List Cell := (nbrs c).filter fun o => !decide (o ∈ C) && inBox w o
def frees (C : List Cell) (w : Int) (L : List Cell) : List Edge := L.flatMap fun c => (free C w c).map fun o => (c, o)
theorem frees_mem {C : List Cell} {w : Int} {L : List Cell} {e : Edge} (h : e ∈ frees C w L) : e.1 ∈ L ∧ e.2 ∈ nbrs e.1 ∧ e.2 ∉ C ∧ inBox w e.2 = true := by
  obtain ⟨c, hc, h⟩ := List.mem_flatMap.mp h
  obtain ⟨o, ho, rfl⟩ := List.mem_map.mp h
  have := List.mem_filter.mp ho
  simp only [Bool.and_eq_true, Bool.not_eq_true', decide_eq_false_iff_not] at this
  exact ⟨hc, this.1, this.2.1, this.2.2⟩
theorem frees_ne {C : List Cell} {w n : Nat} (h : Roomy w n) (h0 : (0, 0) ∈ C) (hl : C.length < n) : frees C w C ≠ [] := fun e => by
  obtain ⟨c, hc, o, ho, h1, h2⟩ := h C h0 hl
  have : (c, o) ∈ frees C w C := List.mem_flatMap.mpr ⟨c, hc, List.mem_map.mpr ⟨o, List.mem_filter.mpr ⟨ho, by simp [h1, h2]⟩, rfl⟩⟩
  rw [e] at this
  cases this
theorem frees_len {C : List Cell} {w : Int} : ∀ {L : List Cell}, (frees C w L).length ≤ 4 * L.length
  | [] => Nat.le_refl _
  | c :: L => by
    have ih := frees_len (C := C) (w := w) (L := L)
    have h4 : (free C w c).length ≤ 4 := List.length_filter_le _ _
    show (((free C w c).map fun o => (c, o)) ++ frees C w L).length ≤ _
    rw [List.length_append, List.length_map, List.length_cons]
    omega
theorem frees_snoc {C : List Cell} {w : Int} {L : List Cell} {i : Nat} {c : Cell} (h : L[i]? = some c) : frees C w (L.take (i + 1)) = frees C w (L.take i) ++ (free C w c).map fun o => (c, o) := by
  unfold frees
  rw [take_snoc h, List.flatMap_append, List.flatMap_cons, List.flatMap_nil, List.append_nil]
/-- what has been tied among the cells C -/
structure TiesOk (C : List Cell) (L : List Edge) : Prop where
  mem : ∀ e ∈ L, e.1 ∈ C ∧ e.2 ∈ C ∧ e.2 ∈ nbrs e.1 ∧ key e.1 e.2 = e
  all : 2 ≤ C.length → ∀ c ∈ C, ∃ o ∈ nbrs c, key c o ∈ L
theorem TiesOk.grow {C : List Cell} {L : List Edge} (h : TiesOk C L) {c o : Cell} (hc : c ∈ C) (ho : o ∈ nbrs c) (h1 : C.length = 1 → C = [c]) : TiesOk (C ++ [o]) (L ++ [key c o]) where
  mem := fun e he => by
    rcases List.mem_append.mp he with z | z
    · obtain ⟨a, b, d, f⟩ := h.mem e z
      exact ⟨List.mem_append_left _ a, List.mem_append_left _ b, d, f⟩
    · rw [List.mem_singleton.mp z]
      have hne : c ≠ o := fun q => nbrs_self c (q ▸ ho)
      rcases key_or c o with k | k
      · rw [k]
        exact ⟨List.mem_append_left _ hc, by simp, ho, k⟩
      · rw [k]
        exact ⟨by simp, List.mem_append_left _ hc, nbrs_symm ho, by rw [key_symm hne.symm]; exact k⟩
  all := fun _ d hd => by
    have hne : c ≠ o := fun q => nbrs_self c (q ▸ ho)
    rcases List.mem_append.mp hd with z | z
    · by_cases h2 : 2 ≤ C.length
      · obtain ⟨o', a, b⟩ := h.all h2 d z
        exact ⟨o', a, List.mem_append_left _ b⟩
      · have hl : C.length = 1 := by
          have := List.length_pos_of_mem hc
          omega
        rw [h1 hl] at z
        rw [List.mem_singleton.mp z]
        exact ⟨o, ho, by simp⟩
    · rw [List.mem_singleton.mp z]
      exact ⟨c, nbrs_symm ho, by rw [key_symm hne.symm]; simp⟩
theorem TiesOk.more {C : List Cell} {L : List Edge} (h : TiesOk C L) {e : Edge} (h1 : e.1 ∈ C) (h2 : e.2 ∈ C) (h3 : e.2 ∈ nbrs e.1) (h4 : key e.1 e.2 = e) : TiesOk C (L ++ [e]) where
  mem := fun f hf => by
    rcases List.mem_append.mp hf with z | z
    · exact h.mem f z
    · rw [List.mem_singleton.mp z]
      exact ⟨h1, h2, h3, h4⟩
  all := fun hl c hc => by
    obtain ⟨o, a, b⟩ := h.all hl c hc
    exact ⟨o, a, List.mem_append_left _ b⟩
/-- a graph of cells -/
structure GOk (G : List (Cell × List Cell)) : Prop where
  nd : (G.map (·.1)).Nodup
  rnd : ∀ g ∈ G, g.2.Nodup
  rne : ∀ g ∈ G, g.2 ≠ []
  self : ∀ g ∈ G, g.1 ∉ g.2
  sym : ∀ g ∈ G, ∀ b ∈ g.2, ∃ q ∈ G, q.1 = b ∧ g.1 ∈ q.2
  deg : ∀ g ∈ G, g.2.length ≤ 4
def rowOf (L : List Edge) (c : Cell) : List Cell := (nbrs c).filter fun o => decide (key c o ∈ L)
theorem GOk.grid {C : List Cell} {L : List Edge} (nd : C.Nodup) (h2 : 2 ≤ C.length) (h : TiesOk C L) : GOk (C.map fun c => (c, rowOf L c)) where
  nd := by
    rw [List.map_map]
    show (C.map fun c => c).Nodup
    rw [List.map_id']
    exact nd
  rnd := fun g hg => by
    obtain ⟨c, _, rfl⟩ := List.mem_map.mp hg
    exact List.Pairwise.filter (fun o => decide (key c o ∈ L)) (nbrs_nodup c)
  rne := fun g hg e => by
    obtain ⟨c, hc, rfl⟩ := List.mem_map.mp hg
    obtain ⟨o, a, b⟩ := h.all h2 c hc
    have : o ∈ rowOf L c := List.mem_filter.mpr ⟨a, decide_eq_true b⟩
    dsimp only at e
    rw [e] at this
    cases this
  self := fun g hg hm => by
    obtain ⟨c, hc, rfl⟩ := List.mem_map.mp hg
    exact nbrs_self c (List.mem_filter.mp hm).1
  sym := fun g hg b hb => by
    obtain ⟨c, hc, rfl⟩ := List.mem_map.mp hg
    obtain ⟨hb1, hb2⟩ := List.mem_filter.mp hb
    have hk := of_decide_eq_true hb2
    have hne : c ≠ b := fun q => nbrs_self c (by rw [← q] at hb1; exact hb1)
    have hbC : b ∈ C := by
      obtain ⟨m1, m2, _, _⟩ := h.mem _ hk
      rcases key_or c b with k | k
      · rw [k] at m2
        exact m2
      · rw [k] at m1
        exact m1
    exact ⟨(b, rowOf L b), List.mem_map.mpr ⟨b, hbC, rfl⟩, rfl, List.mem_filter.mpr ⟨nbrs_symm hb1, by rw [key_symm hne.symm]; exact hb2⟩⟩
  deg := fun g hg => by
    obtain ⟨c, hc, rfl⟩ := List.mem_map.mp hg
    exact List.length_filter_le _ _
end K2
namespace K2
open PySem PyProof.Rows L2 HD HT
/-- the values of cells -/
inductive CAll (H : Hp) : List V → List Cell → Prop
  | nil : CAll H [] []
  | cons {b : Addr} {c : Cell} {vs : List V} {cs : List Cell} : CellAt H b c → CAll H vs cs → CAll H (.ref b :: vs) (c :: cs)
section
variable {H H' : Hp}
theorem CAll.mono (e : Tm H H') : ∀ {vs : List V} {cs : List Cell}, CAll H vs cs → CAll H' vs cs
  | _, _, .nil => .nil
  | _, _, .cons h t => .cons (h.mono e) (CAll.mono e t)
theorem CAll.len : ∀ {vs : List V} {cs : List Cell}, CAll H vs cs → vs.length = cs.length
  | _, _, .nil => rfl
  | _, _, .cons _ t => congrArg (· + 1) t.len
theorem CAll.get : ∀ {vs : List V} {cs : List Cell} {i : Nat} {v : V}, CAll H vs cs → vs[i]? = some v → ∃ b c, v = .ref b ∧ cs[i]? = some c ∧ CellAt H b c
  | _, _, _, _, .nil, e => by simp at e
  | _, _, 0, _, .cons h _, e => ⟨_, _, (Option.some.inj (show some _ = some _ from e)).symm, rfl, h⟩
  | _, _, i + 1, _, .cons _ t, e => CAll.get (i := i) t (by simpa using e)
theorem CAll.get2 : ∀ {vs : List V} {cs : List Cell} {i : Nat} {c : Cell}, CAll H vs cs → cs[i]? = some c → ∃ b, vs[i]? = some (.ref b) ∧ CellAt H b c
  | _, _, _, _, .nil, e => by simp at e
  | _, _, 0, _, .cons h _, e => by
    have e := Option.some.inj (show some _ = some _ from e)
    subst e
    exact ⟨_, rfl, h⟩
  | _, _, i + 1, _, .cons _ t, e => CAll.get2 (i := i) t (by simpa using e)
theorem CAll.append : ∀ {vs ws : List V} {cs ds : List Cell}, CAll H vs cs → CAll H ws ds → CAll H (vs ++ ws) (cs ++ ds)
  | _, _, _, _, .nil, h => h
  | _, _, _, _, .cons h t, q => .cons h (CAll.append t q)
theorem CAll.td {K : PySem.W.Frag} : ∀ {vs : List V} {cs : List Cell}, CAll H vs cs → TdAll K H vs (cs.map encC)
  | _, _, .nil => .nil
  | _, _, .cons h t => .cons (td_cell h) (CAll.td t)
/-- pairs of cells -/
inductive EAll (H : Hp) : List V → List Edge → Prop
  | nil : EAll H [] []
  | cons {b : Addr} {c : Edge} {vs : List V} {cs : List Edge} : EdgeAt H b c → EAll H vs cs → EAll H (.ref b :: vs) (c :: cs)
theorem EAll.mono (e : Tm H H') : ∀ {vs : List V} {cs : List Edge}, EAll H vs cs → EAll H' vs cs
  | _, _, .nil => .nil
  | _, _, .cons h t => .cons (h.mono e) (EAll.mono e t)
theorem EAll.len : ∀ {vs : List V} {cs : List Edge}, EAll H vs cs → vs.length = cs.length
  | _, _, .nil => rfl
  | _, _, .cons _ t => congrArg (· + 1) t.len
theorem EAll.get2 : ∀ {vs : List V} {cs : List Edge} {i : Nat} {c : Edge}, EAll H vs cs → cs[i]? = some c → ∃ b, vs[i]? = some (.ref b) ∧ EdgeAt H b c
  | _, _, _, _, .nil, e => by simp at e
  | _, _, 0, _, .cons h _, e => by
    have e := Option.some.inj (show some _ = some _ from e)
    subst e
    exact ⟨_, rfl, h⟩
  | _, _, i + 1, _, .cons _ t, e => EAll.get2 (i := i) t (by simpa using e)
theorem EAll.append : ∀ {vs ws : List V} {cs ds : List Edge}, EAll H vs cs → EAll H ws ds → EAll H (vs ++ ws) (cs ++ ds)
  | _, _, _, _, .nil, h => h
  | _, _, _, _, .cons h t, q => .cons h (EAll.append t q)
end
/-! ### which of two cells is below -/
theorem eqv_int (x y : Int) : PyData.eqv (.int x) (.int y) = decide (x = y) := by
  by_cases h : x = y <;> simp [PyData.eqv, h]
theorem dataLt_cell (a b : Cell) : PySem.W.dataLt (encC a) (encC b) = cellLt a b := by
  obtain ⟨x, y⟩ := a
  obtain ⟨u, v⟩ := b
  unfold encC cellLt
  rw [PySem.W.dataLt_tuple]
  dsimp only
  by_cases h1 : x = u
  · rw [PySem.W.dataLt_all_yes (by simp [PySem.W.alike]) (by rw [eqv_int]; exact decide_eq_true h1)]
    by_cases h2 : y = v
    · rw [PySem.W.dataLt_all_yes (by simp [PySem.W.alike]) (by rw [eqv_int]; exact decide_eq_true h2)]
      rw [h1, h2]
      simp [PySem.W.keyToksAll, PyProof.Rows.lexLt]
      show decide ((0 : Int) < 0) = false
      decide
    · rw [PySem.W.dataLt_all_no (by simp [PySem.W.alike]) (by rw [eqv_int]; exact decide_eq_false h2), PySem.W.dataLt_int, h1]
      simp
  · rw [PySem.W.dataLt_all_no (by simp [PySem.W.alike]) (by rw [eqv_int]; exact decide_eq_false h1), PySem.W.dataLt_int]
    simp [h1]
theorem encC_inj {a b : Cell} (h : encC a = encC b) : a = b := by
  obtain ⟨x, y⟩ := a
  obtain ⟨u, v⟩ := b
  unfold encC at h
  cases h
  rfl
/-- min(a, b), max(a, b) of two cells that differ -/
theorem min_cells {K : PySem.W.Frag} {H : Hp} {x y : Addr} {a b : Cell} {Q : VK} (hx : CellAt H x a) (hy : CellAt H y b) (ne : a ≠ b) (q : Q (.ref (if cellLt b a then y else x)) H) : rBest2D PySem.W.minD K [.ref x, .ref y] H Q := by
  have ed : PySem.W.minD (encC a) [encC b] = if cellLt b a = true then encC b else encC a := by
    show (if PySem.W.dataLt (encC b) (encC a) = true then encC b else encC a) = _
    rw [dataLt_cell]
  refine ⟨.ref x, .ref y, encC a, encC b, rfl, (td_cell hx).dp, (td_cell hy).dp, ⟨fun d hd e he => ?_, fun d hd h0 => ?_⟩, by show 1 ≤ 8; decide, by show 1 ≤ 8; decide, fun h => ?_, fun h => ?_⟩
  · simp only [List.mem_cons, List.not_mem_nil, or_false] at hd he
    rcases hd with rfl | rfl <;> rcases he with rfl | rfl <;> exact alike_cell _ _
  · simp only [List.mem_cons, List.not_mem_nil, or_false] at hd
    rcases hd with rfl | rfl <;> cases h0
  · rw [ed] at h
    cases hl : cellLt b a
    · rw [hl] at q
      exact q
    · rw [hl] at h
      exact absurd (encC_inj h) (fun z => ne z.symm)
  · rw [ed] at h
    cases hl : cellLt b a
    · rw [hl] at h
      exact absurd (encC_inj h) ne
    · rw [hl] at q
      exact q
theorem max_cells {K : PySem.W.Frag} {H : Hp} {x y : Addr} {a b : Cell} {Q : VK} (hx : CellAt H x a) (hy : CellAt H y b) (ne : a ≠ b) (q : Q (.ref (if cellLt b a then x else y)) H) : rBest2D PySem.W.maxD K [.ref x, .ref y] H Q := by
  have ed : PySem.W.maxD (encC a) [encC b] = if cellLt a b = true then encC b else encC a := by
    show (if PySem.W.dataLt (encC a) (encC b) = true then encC b else encC a) = _
    rw [dataLt_cell]
  rw [cellLt_asym ne] at q
  refine ⟨.ref x, .ref y, encC a, encC b, rfl, (td_cell hx).dp, (td_cell hy).dp, ⟨fun d hd e he => ?_, fun d hd h0 => ?_⟩, by show 1 ≤ 8; decide, by show 1 ≤ 8; decide, fun h => ?_, fun h => ?_⟩
  · simp only [List.mem_cons, List.not_mem_nil, or_false] at hd he
    rcases hd with rfl | rfl <;> rcases he with rfl | rfl <;> exact alike_cell _ _
  · simp only [List.mem_cons, List.not_mem_nil, or_false] at hd
    rcases hd with rfl | rfl <;> cases h0
  · rw [ed] at h
    cases hl : cellLt a b
    · rw [hl] at q
      exact q
    · rw [hl] at h
      exact absurd (encC_inj h) (fun z => ne z.symm)
  · rw [ed] at h
    cases hl : cellLt a b
    · rw [hl] at h
      exact absurd (encC_inj h) ne
    · rw [hl] at q
      exact q
theorem key_at {H : Hp} {k x y : Addr} {a b : Cell} (hx : CellAt H x a) (hy : CellAt H y b) (hk : H k = some (.tup [.ref (if cellLt b a then y else x), .ref (if cellLt b a then x else y)])) : EdgeAt H k (key a b) := by
  unfold key
  cases h : cellLt b a
  · rw [h] at hk
    exact ⟨x, y, hk, hx, hy⟩
  · rw [h] at hk
    exact ⟨y, x, hk, hy, hx⟩
theorem keyC_inj {a b : Cell} (h : keyC a = keyC b) : a = b := by
  obtain ⟨x, y⟩ := a
  obtain ⟨u, v⟩ := b
  unfold keyC at h
  injection h with h1 h2
  injection h2 with h2 _
  cases h1
  cases h2
  rfl
/-- the dict of cells at tn: each cell with a list of cells -/
structure TurnAt (t h : Addr) (H : Hp) (tn : Addr) (E : List (Cell × Addr × List Cell)) : Prop where
  dict : H tn = some (.dT (E.map fun x => (keyC x.1, V.ref x.2.1)))
  rows : ∀ x ∈ E, ∃ vs, H x.2.1 = some (.lst vs) ∧ CAll H vs x.2.2
  apart : (E.map (·.2.1)).Nodup
  nd : (E.map (·.1)).Nodup
  far : ∀ x ∈ E, x.2.1 ≠ t ∧ x.2.1 ≠ h
theorem TurnAt.same {t h : Addr} {H H' : Hp} {tn : Addr} {E : List (Cell × Addr × List Cell)} (T : TurnAt t h H tn E) (e : Same H H') : TurnAt t h H' tn E :=
  ⟨e _ _ T.dict, fun x hx => by
      obtain ⟨vs, a, b⟩ := T.rows x hx
      exact ⟨vs, e _ _ a, b.mono (Tm.of e)⟩, T.apart, T.nd, T.far⟩
theorem TurnAt.rst {t h : Addr} {H H' : Hp} {tn : Addr} {E : List (Cell × Addr × List Cell)} (T : TurnAt t h H tn E) (hT : Tin H t h) (e : Rst t h H H') : TurnAt t h H' tn E :=
  ⟨by
      obtain ⟨cs, m, h1, h2, _⟩ := hT
      exact e _ _ (ne_of T.dict h1 (fun z => nomatch z)) (ne_of T.dict h2 (fun z => nomatch z)) T.dict,
    fun x hx => by
      obtain ⟨vs, a, b⟩ := T.rows x hx
      exact ⟨vs, e _ _ (T.far x hx).1 (T.far x hx).2 a, b.mono (e.tm hT)⟩, T.apart, T.nd, T.far⟩
theorem turn_val {E : List (Cell × Addr × List Cell)} {c : Cell} : (valV (E.map fun x => (keyC x.1, V.ref x.2.1)) (keyC c)).isSome = decide (c ∈ E.map (·.1)) := by
  induction E with
  | nil => simp [valV_nil]
  | cons x E ih =>
    rw [List.map_cons]
    by_cases h : x.1 = c
    · rw [valV_pos (by show keyC x.1 = keyC c; rw [h])]
      simp [h]
    · rw [valV_neg (fun z => h (keyC_inj z)), ih]
      have h2 : c ≠ x.1 := fun z => h z.symm
      simp [h2]
theorem turn_get {E : List (Cell × Addr × List Cell)} (nd : (E.map (·.1)).Nodup) {x : Cell × Addr × List Cell} (hx : x ∈ E) : valV (E.map fun x => (keyC x.1, V.ref x.2.1)) (keyC x.1) = some (.ref x.2.1) := by
  induction E with
  | nil => cases hx
  | cons y E ih =>
    rw [List.map_cons]
    have nd' := List.nodup_cons.mp (show (y.1 :: E.map (·.1)).Nodup from nd)
    rcases List.mem_cons.mp hx with rfl | hx
    · exact valV_pos rfl
    · rw [valV_neg (fun z => nd'.1 (by rw [keyC_inj z]; exact List.mem_map.mpr ⟨x, hx, rfl⟩))]
      exact ih nd'.2 hx
theorem turn_put {E : List (Cell × Addr × List Cell)} {c : Cell} {l : Addr} (h : c ∉ E.map (·.1)) : putK (E.map fun x => (keyC x.1, V.ref x.2.1)) (keyC c) (.ref l) = (E ++ [(c, l, [])]).map fun (x : Cell × Addr × List Cell) => (keyC x.1, V.ref x.2.1) := by
  have hv : valV (E.map fun x => (keyC x.1, V.ref x.2.1)) (keyC c) = none := by
    have := turn_val (E := E) (c := c)
    rw [decide_eq_false h] at this
    cases e : valV (E.map fun x => (keyC x.1, V.ref x.2.1)) (keyC c) with
    | none => rfl
    | some v => rw [e] at this; cases this
  rw [putK_new _ hv, List.map_append]
  rfl
end K2
namespace K2
open PySem PyProof.Rows L2 HD HT
abbrev Ent := Cell × Addr × List Cell
/-- how the grid stands while it grows -/
structure GS (P : Program) (w : World) (t h : Addr) (H0 H : Hp) (tn od td : Addr) (E : List Ent) (vs : List V) (L : List Edge) : Prop where
  rst : Rst t h H0 H
  tin : Tin H t h
  turn : TurnAt t h H tn E
  ord : H od = some (.lst vs)
  oc : CAll H vs (E.map (·.1))
  tied : TiedAt P w H td L
  oE : ∀ x ∈ E, x.2.1 ≠ od
  ofar : od ≠ t ∧ od ≠ h
  ties : TiesOk (E.map (·.1)) L
  zero : (0, 0) ∈ E.map (·.1)
  new : ∀ x ∈ E, H0 x.2.1 = none
theorem tied_same {P : Program} {w : World} {H H' : Hp} {d : Addr} {L : List Edge} (h : TiedAt P w H d L) (e : Same H H') : TiedAt P w H' d L := by
  obtain ⟨xs, h0⟩ := h.some
  exact h.mono ((e _ _ h0).trans h0.symm) (Tm.of e)
theorem tied_rst {P : Program} {w : World} {t h : Addr} {H H' : Hp} {d : Addr} {L : List Edge} (x : TiedAt P w H d L) (T : Tin H t h) (e : Rst t h H H') : TiedAt P w H' d L := by
  obtain ⟨xs, h0⟩ := x.some
  obtain ⟨cs, m, h1, h2, _⟩ := id T
  refine x.mono ((e _ _ (ne_of h0 h1 fun z => ?_) (ne_of h0 h2 fun z => ?_) h0).trans h0.symm) (e.tm T)
  · have z' : HO.ext _ = HO.lst _ := z
    cases z'
  · have z' : HO.ext _ = HO.lst _ := z
    cases z'
theorem GS.same {P : Program} {w : World} {t h : Addr} {H0 H H' : Hp} {tn od td : Addr} {E : List Ent} {vs : List V} {L : List Edge} (g : GS P w t h H0 H tn od td E vs L) (e : Same H H') : GS P w t h H0 H' tn od td E vs L :=
  ⟨g.rst.trans (Rst.of e), g.tin.same e, g.turn.same e, e _ _ g.ord, g.oc.mono (Tm.of e), tied_same g.tied e, g.oE, g.ofar, g.ties, g.zero, g.new⟩
theorem GS.spill {P : Program} {w : World} {t h : Addr} {H0 H H' : Hp} {tn od td : Addr} {E : List Ent} {vs : List V} {L : List Edge} (g : GS P w t h H0 H tn od td E vs L) (e : Rst t h H H') (T : Tin H' t h) : GS P w t h H0 H' tn od td E vs L :=
  ⟨g.rst.trans e, T, g.turn.rst g.tin e, e _ _ g.ofar.1 g.ofar.2 g.ord, g.oc.mono (e.tm g.tin), tied_rst g.tied g.tin e, g.oE, g.ofar, g.ties, g.zero, g.new⟩
theorem four {H : Hp} {c : Cell} {n1 n2 n3 n4 np : Addr} (h1 : H n1 = none) (h2 : (upd H n1 (.tup [.int c.1, .int (c.2 + 1)])) n2 = none) (h3 : (upd (upd H n1 (.tup [.int c.1, .int (c.2 + 1)])) n2 (.tup [.int (c.1 + 1), .int c.2])) n3 = none)
    (h4 : (upd (upd (upd H n1 (.tup [.int c.1, .int (c.2 + 1)])) n2 (.tup [.int (c.1 + 1), .int c.2])) n3 (.tup [.int c.1, .int (c.2 - 1)])) n4 = none)
    (h5 : (upd (upd (upd (upd H n1 (.tup [.int c.1, .int (c.2 + 1)])) n2 (.tup [.int (c.1 + 1), .int c.2])) n3 (.tup [.int c.1, .int (c.2 - 1)])) n4 (.tup [.int (c.1 - 1), .int c.2])) np = none) {H' : Hp}
    (e : H' = upd (upd (upd (upd (upd H n1 (.tup [.int c.1, .int (c.2 + 1)])) n2 (.tup [.int (c.1 + 1), .int c.2])) n3 (.tup [.int c.1, .int (c.2 - 1)])) n4 (.tup [.int (c.1 - 1), .int c.2])) np (.tup [.ref n1, .ref n2, .ref n3, .ref n4])) :
    Same H H' ∧ H' np = some (.tup [.ref n1, .ref n2, .ref n3, .ref n4]) ∧ CAll H' [.ref n1, .ref n2, .ref n3, .ref n4] (nbrs c) := by
  have s1 := same_new (o := .tup [V.int c.1, V.int (c.2 + 1)]) h1
  have s2 := same_new (o := .tup [V.int (c.1 + 1), V.int c.2]) h2
  have s3 := same_new (o := .tup [V.int c.1, V.int (c.2 - 1)]) h3
  have s4 := same_new (o := .tup [V.int (c.1 - 1), V.int c.2]) h4
  have s5 := same_new (o := .tup [V.ref n1, V.ref n2, V.ref n3, V.ref n4]) h5
  subst e
  refine ⟨s1.trans (s2.trans (s3.trans (s4.trans s5))), upd_same, .cons ?_ (.cons ?_ (.cons ?_ (.cons ?_ .nil)))⟩
  · exact s5 _ _ (s4 _ _ (s3 _ _ (s2 _ _ upd_same)))
  · exact s5 _ _ (s4 _ _ (s3 _ _ upd_same))
  · exact s5 _ _ (s4 _ _ upd_same)
  · exact s5 _ _ upd_same
theorem ext_ne {P : Program} {w : World} {d : Addr} {xs : List (NestedKey × Addr × Value)} : (∀ us, tiedO P w d xs ≠ .lst us) ∧ (∀ us, tiedO P w d xs ≠ .dT us) ∧ ∀ us, tiedO P w d xs ≠ .tup us := by
  refine ⟨fun us z => ?_, fun us z => ?_, fun us z => ?_⟩
  · have z' : HO.ext _ = HO.lst us := z
    cases z'
  · have z' : HO.ext _ = HO.dT us := z
    cases z'
  · have z' : HO.ext _ = HO.tup us := z
    cases z'
theorem tm_tie {P : Program} {w : World} {H H7 : Hp} {td : Addr} {L : List Edge} (h : TiedAt P w H td L) (hoth : ∀ a, a ≠ td → H7 a = H a) : Tm H H7 := fun a u e i => by
  obtain ⟨xs, h0⟩ := h.some
  rw [hoth a fun z => ?_]
  · exact e
  · rw [z, h0] at e
    cases e
    exact i
theorem GS.tie {P : Program} {w : World} {t h : Addr} {H0 H H7 : Hp} {tn od td : Addr} {E : List Ent} {vs : List V} {L : List Edge} {e : Edge} (g : GS P w t h H0 H tn od td E vs L) (hoth : ∀ a, a ≠ td → H7 a = H a) (htd : TiedAt P w H7 td (L ++ [e])) (h0 : H0 td = none) (T0 : Tin H0 t h)
    (te : TiesOk (E.map (·.1)) (L ++ [e])) : GS P w t h H0 H7 tn od td E vs (L ++ [e]) := by
  obtain ⟨xs, hx⟩ := g.tied.some
  have tm := tm_tie g.tied hoth
  have ntd := T0.ne h0
  obtain ⟨cs, m, f1, f2, f3⟩ := g.tin
  refine ⟨fun a u n1 n2 z => ?_, ⟨cs, m, by rw [hoth t ntd.1.symm]; exact f1, by rw [hoth h ntd.2.symm]; exact f2, f3⟩, ⟨?_, fun x hx' => ?_, g.turn.apart, g.turn.nd, g.turn.far⟩, ?_, g.oc.mono tm, htd, g.oE, g.ofar, te, g.zero, g.new⟩
  · rw [hoth a (ne_of_none z h0)]
    exact g.rst a u n1 n2 z
  · rw [hoth tn (ne_of g.turn.dict hx fun z => ext_ne.2.1 _ z.symm)]
    exact g.turn.dict
  · obtain ⟨us, hu, hc⟩ := g.turn.rows x hx'
    refine ⟨us, ?_, hc.mono tm⟩
    rw [hoth _ (ne_of hu hx fun z => ext_ne.1 _ z.symm)]
    exact hu
  · rw [hoth od (ne_of g.ord hx fun z => ext_ne.1 _ z.symm)]
    exact g.ord
def nb2 (c : Cell) : List Cell := [(c.1 + 1, c.2), (c.1, c.2 + 1)]
theorem nb2_mem {c o : Cell} (h : o ∈ nb2 c) : o ∈ nbrs c ∧ key c o = (c, o) := by
  obtain ⟨x, y⟩ := c
  obtain ⟨u, v⟩ := o
  simp only [nb2, List.mem_cons, List.not_mem_nil, or_false, Prod.mk.injEq] at h
  refine ⟨by simp only [nbrs, List.mem_cons, List.not_mem_nil, or_false, Prod.mk.injEq]; omega, ?_⟩
  unfold key
  have e : cellLt (u, v) (x, y) = false := by
    unfold cellLt
    rw [Bool.or_eq_false_iff, Bool.and_eq_false_iff]
    refine ⟨decide_eq_false (by dsimp only; omega), ?_⟩
    by_cases h2 : u = x
    · exact .inr (decide_eq_false (by dsimp only; omega))
    · exact .inl (decide_eq_false h2)
  rw [e]
  rfl
theorem key_at2 {H : Hp} {k x x' y : Addr} {a b : Cell} (hx : CellAt H x a) (hx' : CellAt H x' a) (hy : CellAt H y b) (hk : H k = some (.tup [.ref (if cellLt b a then y else x), .ref (if cellLt b a then x' else y)])) : EdgeAt H k (key a b) := by
  unfold key
  cases h : cellLt b a
  · rw [h] at hk
    exact ⟨x, y, hk, hx, hy⟩
  · rw [h] at hk
    exact ⟨y, x', hk, hy, hx'⟩
theorem set_keys {E : List Ent} {i : Nat} {c : Cell} {l : Addr} {r r' : List Cell} (h : E[i]? = some (c, l, r)) : (E.set i (c, l, r')).map (·.1) = E.map (·.1) ∧ (E.set i (c, l, r')).map (·.2.1) = E.map (·.2.1) ∧ (E.set i (c, l, r')).map (fun x => (keyC x.1, V.ref x.2.1)) = E.map (fun x => (keyC x.1, V.ref x.2.1)) := by
  have hi := (List.getElem?_eq_some_iff.mp h).1
  have gen : ∀ {β : Type} (f : Ent → β), f (c, l, r') = f (c, l, r) → (E.set i (c, l, r')).map f = E.map f := fun f e => by
    rw [List.map_set, e]
    refine List.ext_getElem? fun j => ?_
    rw [List.getElem?_set]
    by_cases hj : i = j
    · subst hj
      rw [if_pos rfl, if_pos (by rw [List.length_map]; exact hi), List.getElem?_map, h]
      rfl
    · rw [if_neg hj]
  exact ⟨gen (·.1) rfl, gen (·.2.1) rfl, gen (fun x => (keyC x.1, V.ref x.2.1)) rfl⟩
theorem GS.app {P : Program} {w : World} {t h : Addr} {H0 H : Hp} {tn od td : Addr} {E : List Ent} {vs : List V} {L : List Edge} (g : GS P w t h H0 H tn od td E vs L) {i : Nat} {c o : Cell} {l b : Addr} {r : List Cell} {us : List V} (hi : E[i]? = some (c, l, r)) (hl : H l = some (.lst us)) (hu : CAll H us r) (hb : CellAt H b o) :
    GS P w t h H0 (upd H l (.lst (us ++ [.ref b]))) tn od td (E.set i (c, l, r ++ [o])) vs L := by
  obtain ⟨k1, k2, k3⟩ := set_keys (r' := r ++ [o]) hi
  have hm : (c, l, r) ∈ E := List.mem_of_getElem? hi
  have tm : Tm H (upd H l (.lst (us ++ [.ref b]))) := Tm.lst hl
  have nlo : l ≠ od := g.oE _ hm
  have nlt : l ≠ tn := ne_of hl g.turn.dict (fun z => nomatch z)
  have ntd : td ≠ l := by
    obtain ⟨xs, hx⟩ := g.tied.some
    exact ne_of hx hl (ext_ne.1 _)
  have far := g.turn.far _ hm
  have mem : ∀ x ∈ E.set i (c, l, r ++ [o]), x = (c, l, r ++ [o]) ∨ (x ∈ E ∧ x.2.1 ≠ l) := fun x hx => by
    obtain ⟨j, hj⟩ := List.mem_iff_getElem?.mp hx
    rw [List.getElem?_set] at hj
    by_cases hij : i = j
    · rw [if_pos hij] at hj
      split at hj
      · exact .inl (Option.some.inj hj).symm
      · cases hj
    · rw [if_neg hij] at hj
      refine .inr ⟨List.mem_of_getElem? hj, fun e => hij ?_⟩
      exact nd_ix (l := E.map (·.2.1)) g.turn.apart (by rw [List.getElem?_map, hi]; rfl) (by rw [List.getElem?_map, hj, ← e]; rfl)
  refine ⟨g.rst.put (g.new _ hm), g.tin.put far.1.symm far.2.symm, ⟨?_, fun x hx => ?_, by rw [k2]; exact g.turn.apart, by rw [k1]; exact g.turn.nd, fun x hx => ?_⟩, ?_, by rw [k1]; exact g.oc.mono tm, g.tied.mono (by rw [upd_ne ntd]) tm, fun x hx => ?_, g.ofar, by rw [k1]; exact g.ties, by rw [k1]; exact g.zero, fun x hx => ?_⟩
  · rw [k3, upd_ne nlt.symm]
    exact g.turn.dict
  · rcases mem x hx with rfl | ⟨hx, ne⟩
    · exact ⟨_, upd_same, (hu.append (.cons hb .nil)).mono tm⟩
    · obtain ⟨us', hu', hc'⟩ := g.turn.rows x hx
      exact ⟨us', by rw [upd_ne ne]; exact hu', hc'.mono tm⟩
  · rcases mem x hx with rfl | ⟨hx, _⟩
    · exact far
    · exact g.turn.far x hx
  · rw [upd_ne nlo.symm]
    exact g.ord
  · rcases mem x hx with rfl | ⟨hx, _⟩
    · exact nlo
    · exact g.oE x hx
  · rcases mem x hx with rfl | ⟨hx, _⟩
    · show H0 l = none
      exact g.new (c, l, r) hm
    · exact g.new x hx
section
variable {P : Program} {w : World} {K : PySem.W.Frag} {mg : Str → Option Value} {base : Heap}
def spGrid : Sp := fun vs H Q _ => ∃ (t h : Addr) (n wd : Nat) (dense : Int), vs = [.ref t, .int n, .int wd, .int dense] ∧ Tin H t h ∧ 2 ≤ n ∧ n ≤ 40 ∧ Roomy wd n ∧
  ∀ (tn : Addr) (E : List Ent) H', Rst t h H H' → Tin H' t h → TurnAt t h H' tn E → GOk (E.map fun x => (x.1, x.2.2)) → E.length = n → Q (.ref tn) H'
theorem ok_law_grid (T : Txt K mg) : FnOk P w K mg base CX0 2 T.d_law_grid.f T.d_law_grid.fd ["tin", "many", "wide", "dense"] spGrid := by
  refine T.d_law_grid.F.ok sc_law_grid (fun vs H Q E h => ?_) (fun cdv A outer s H vs Q E hr h => ?_)
  · obtain ⟨_, _, _, _, _, rfl, _⟩ := h
    rfl
  · obtain ⟨t, hh, n, wd, dense, rfl, hT, hn2, hn40, hroom, q⟩ := h
    refine ⟨_, (pss_cons (ps_set (i := 4) sc_law_grid.nd rfl (Or.inl rfl) (pe_disp1T hr.units (pe_tup (pa_cons pe_int (pa_cons pe_int pa_nil))) (pe_lst pa_nil)))
  (pss_cons (ps_set (i := 5) sc_law_grid.nd rfl (Or.inl rfl) (pe_lst (pa_cons (pe_tup (pa_cons pe_int (pa_cons pe_int pa_nil))) pa_nil)))
  (pss_cons (ps_set (i := 6) sc_law_grid.nd rfl (Or.inl rfl) pe_tnew)
  (pss_cons (ps_mid (ps_for PassesOwn.never rfl (pi_range1 (by rfl) T.n_range (pa_cons (pe_op op_sub (pv 1) pe_int) pa_nil)) (pg_name (i := 7) sc_law_grid.nd rfl (Or.inl rfl))
    (pss_cons (ps_set (i := 8) sc_law_grid.nd rfl (Or.inl rfl) (pe_lst pa_nil))
  (pss_cons (ps_mid (ps_for PassesOwn.never rfl (pi_list (pv 5)) (pg_tup rfl (pgs_cons (pg_name (i := 9) sc_law_grid.nd rfl (Or.inl rfl)) (pgs_cons (pg_name (i := 10) sc_law_grid.nd rfl (Or.inl rfl)) pgs_nil)))
    (pss_one (ps_mid (ps_for PassesOwn.never rfl (pi_tup (pe_tup (pa_cons (pe_tup (pa_cons (pv 9) (pa_cons (pe_op op_add (pv 10) pe_int) pa_nil))) (pa_cons (pe_tup (pa_cons (pe_op op_add (pv 9) pe_int) (pa_cons (pv 10) pa_nil))) (pa_cons (pe_tup (pa_cons (pv 9) (pa_cons (pe_op op_sub (pv 10) pe_int) pa_nil))) (pa_cons (pe_tup (pa_cons (pe_op op_sub (pv 9) pe_int) (pa_cons (pv 10) pa_nil))) pa_nil)))))) (pg_name (i := 11) sc_law_grid.nd rfl (Or.inl rfl))
    (pss_one (ps_mid (ps_if (pt_mid (PW.pt (pw_and (pt_cmp (pc_dnotin (hu_of hr) (pv 11) (pv 4))) (pw_and (pt_cmpR op_lt (pe_callB call_abs (by rfl) T.n_abs (by decide +kernel) (pa_cons (pe_ix ix_tup (pv 11) pe_int (fun _ _ => rfl)) pa_nil)) (pv 2) (nomark _)) (pw_and1 (pt_cmpR op_lt (pe_callB call_abs (by rfl) T.n_abs (by decide +kernel) (pa_cons (pe_ix ix_tup (pv 11) pe_int (fun _ _ => rfl)) pa_nil)) (pv 2) (nomark _)))))))
    (pss_one (ps_expr (pe_bm PySem.F.plainAttrs_list PySem.F.slot_list_append PySem.F.type_list_append mt_append (pv 8) (pa_cons (pe_tup (pa_cons (pe_tup (pa_cons (pv 9) (pa_cons (pv 10) pa_nil))) (pa_cons (pv 11) pa_nil))) pa_nil))))
    pss_nil))))))))
  (pss_cons (ps_asg (pe_ix ix_list (pv 8) (pe_call (ok_law_spill T) (hr.mono (by decide)) (by rfl) T.d_law_spill.m T.d_law_spill.F.kp T.d_law_spill.b .nil pass0 (pa_cons (pv 0) (pa_cons (pe_callB call_len (by rfl) T.n_len (by decide +kernel) (pa_cons (pv 8) pa_nil)) pa_nil))) (fun _ _ => rfl)) (pg_tup rfl (pgs_cons (pg_name (i := 12) sc_law_grid.nd rfl (Or.inl rfl)) (pgs_cons (pg_name (i := 11) sc_law_grid.nd rfl (Or.inl rfl)) pgs_nil))))
  (pss_cons (ps_dput (hu_of hr) (pv 4) (pv 11) (pe_lst pa_nil) rfl)
  (pss_cons (ps_expr (pe_bm PySem.F.plainAttrs_list PySem.F.slot_list_append PySem.F.type_list_append mt_append (pv 5) (pa_cons (pv 11) pa_nil)))
  (pss_one (HT.ps_tput hr.units (pv 6) (pe_tup (pa_cons (pe_callB (cr_min2D rfl hr.units) (by rfl) T.n_min (by decide +kernel) (pa_cons (pv 12) (pa_cons (pv 11) pa_nil))) (pa_cons (pe_callB (cr_max2D rfl hr.units) (by rfl) T.n_max (by decide +kernel) (pa_cons (pv 12) (pa_cons (pv 11) pa_nil))) pa_nil))) pe_bl rfl)))))))))
  (pss_cons (ps_mid (ps_for PassesOwn.never rfl (pi_list (pv 5)) (pg_tup rfl (pgs_cons (pg_name (i := 9) sc_law_grid.nd rfl (Or.inl rfl)) (pgs_cons (pg_name (i := 10) sc_law_grid.nd rfl (Or.inl rfl)) pgs_nil)))
    (pss_one (ps_mid (ps_for PassesOwn.never rfl (pi_tup (pe_tup (pa_cons (pe_tup (pa_cons (pe_op op_add (pv 9) pe_int) (pa_cons (pv 10) pa_nil))) (pa_cons (pe_tup (pa_cons (pv 9) (pa_cons (pe_op op_add (pv 10) pe_int) pa_nil))) pa_nil)))) (pg_name (i := 11) sc_law_grid.nd rfl (Or.inl rfl))
    (pss_one (ps_mid (ps_if (PW.pt (pw_and (pt_cmp (pc_din (hu_of hr) (pv 11) (pv 4))) (pw_and1 (pt_cmpR op_lt (pe_call (ok_law_spill T) (hr.mono (by decide)) (by rfl) T.d_law_spill.m T.d_law_spill.F.kp T.d_law_spill.b .nil pass0 (pa_cons (pv 0) (pa_cons pe_int pa_nil))) (pv 3) (nomark _)))))
    (pss_one (HT.ps_tput hr.units (pv 6) (pe_tup (pa_cons (pe_tup (pa_cons (pv 9) (pa_cons (pv 10) pa_nil))) (pa_cons (pv 11) pa_nil))) pe_bl rfl))
    pss_nil))))))))
  (pss_cons (ps_mid (ps_for PassesOwn.never rfl (pi_list (pv 5)) (pg_tup rfl (pgs_cons (pg_name (i := 9) sc_law_grid.nd rfl (Or.inl rfl)) (pgs_cons (pg_name (i := 10) sc_law_grid.nd rfl (Or.inl rfl)) pgs_nil)))
    (pss_one (ps_mid (ps_for PassesOwn.never rfl (pi_tup (pe_tup (pa_cons (pe_tup (pa_cons (pv 9) (pa_cons (pe_op op_add (pv 10) pe_int) pa_nil))) (pa_cons (pe_tup (pa_cons (pe_op op_add (pv 9) pe_int) (pa_cons (pv 10) pa_nil))) (pa_cons (pe_tup (pa_cons (pv 9) (pa_cons (pe_op op_sub (pv 10) pe_int) pa_nil))) (pa_cons (pe_tup (pa_cons (pe_op op_sub (pv 9) pe_int) (pa_cons (pv 10) pa_nil))) pa_nil)))))) (pg_name (i := 11) sc_law_grid.nd rfl (Or.inl rfl))
    (pss_one (ps_mid (ps_if (pt_cmp (HT.pc_tin hr.units (pe_tup (pa_cons (pe_callB (cr_min2D rfl hr.units) (by rfl) T.n_min (by decide +kernel) (pa_cons (pe_tup (pa_cons (pv 9) (pa_cons (pv 10) pa_nil))) (pa_cons (pv 11) pa_nil))) (pa_cons (pe_callB (cr_max2D rfl hr.units) (by rfl) T.n_max (by decide +kernel) (pa_cons (pe_tup (pa_cons (pv 9) (pa_cons (pv 10) pa_nil))) (pa_cons (pv 11) pa_nil))) pa_nil))) (pv 6)))
    (pss_one (ps_expr (pe_bm PySem.F.plainAttrs_list PySem.F.slot_list_append PySem.F.type_list_append mt_append (pe_dget (hu_of hr) (pv 4) (pe_tup (pa_cons (pv 9) (pa_cons (pv 10) pa_nil))) (fun _ _ => rfl)) (pa_cons (pv 11) pa_nil))))
    pss_nil))))))))
  (pss_one (ps_ret (pv 4))))))))), ?_⟩
    refine fun tn htn => ?_
    have z1 := same_new (o := .dT []) htn
    refine ⟨(by show 2 ≤ sizeLine; decide), fun kt hkt => ?_⟩
    have z2 := same_new (o := .tup [V.int 0, V.int 0]) hkt
    refine ⟨(by show 0 ≤ sizeLine; decide), fun l0 hl0 => ?_⟩
    have z3 := same_new (o := .lst []) hl0
    refine ⟨kt, keyC (0, 0), rfl, z3 _ _ upd_same, z3 _ _ (z2 _ _ upd_same), ?_⟩
    have ntl : tn ≠ l0 := ne_of_none (z2 _ _ upd_same) hl0
    have z4 : Same H (upd (upd (upd (upd H tn (.dT [])) kt (.tup [.int 0, .int 0])) l0 (.lst [])) tn (.dT [(keyC (0, 0), .ref l0)])) := (z1.trans (z2.trans z3)).put htn
    have g1 : (upd (upd (upd (upd H tn (.dT [])) kt (.tup [.int 0, .int 0])) l0 (.lst [])) tn (.dT [(keyC (0, 0), .ref l0)])) tn = some (.dT [(keyC (0, 0), .ref l0)]) := upd_same
    have g2 : (upd (upd (upd (upd H tn (.dT [])) kt (.tup [.int 0, .int 0])) l0 (.lst [])) tn (.dT [(keyC (0, 0), .ref l0)])) l0 = some (.lst []) := by rw [upd_ne ntl.symm, upd_same]
    have hl0' : H l0 = none := (z1.trans z2).free hl0
    generalize (upd (upd (upd (upd H tn (.dT [])) kt (.tup [.int 0, .int 0])) l0 (.lst [])) tn (.dT [(keyC (0, 0), .ref l0)])) = H1 at z4 g1 g2
    refine ⟨(by show 2 ≤ sizeLine; decide), fun ot hot => ⟨(by show 1 ≤ sizeLine; decide), fun od hod => ?_⟩⟩
    have z5 := same_new (o := .tup [V.int 0, V.int 0]) hot
    have z6 := same_new (o := .lst [V.ref ot]) hod
    have g3 := z6 _ _ (z5 _ _ g1)
    have g4 := z6 _ _ (z5 _ _ g2)
    have g5 : upd (upd H1 ot (.tup [.int 0, .int 0])) od (.lst [.ref ot]) od = some (.lst [.ref ot]) := upd_same
    have g6 : CellAt (upd (upd H1 ot (.tup [.int 0, .int 0])) od (.lst [.ref ot])) ot (0, 0) := z6 _ _ upd_same
    have nol : l0 ≠ od := ne_of_none (z5 _ _ g2) hod
    have hod' : H od = none := (z4.trans z5).free hod
    have z7 := z4.trans (z5.trans z6)
    generalize (upd (upd H1 ot (.tup [.int 0, .int 0])) od (.lst [.ref ot])) = H2 at z7 g3 g4 g5 g6
    refine fun td htd H3 hoth htied => ?_
    have z8 : Same H2 H3 := fun a o e => by rw [hoth a (ne_of_none e htd)]; exact e
    have gs0 : GS P w t hh H H3 tn od td [((0, 0), l0, [])] [.ref ot] [] := by
      refine ⟨Rst.of (z7.trans z8), (hT.same z7).same z8, ⟨z8 _ _ g3, fun x hx => ?_, by simp, by simp, fun x hx => ?_⟩, z8 _ _ g5, .cons (g6.mono (Tm.of z8)) .nil, htied, fun x hx => ?_, hT.ne hod', ⟨fun e he => (nomatch he), fun h2 => absurd h2 (by show ¬ 2 ≤ 1; decide)⟩, by simp, fun x hx => ?_⟩
      · rw [List.mem_singleton.mp hx]
        exact ⟨[], z8 _ _ g4, .nil⟩
      · rw [List.mem_singleton.mp hx]
        exact hT.ne hl0'
      · rw [List.mem_singleton.mp hx]
        exact nol
      · rw [List.mem_singleton.mp hx]
        exact hl0'
    have htd0 : H td = none := z7.free htd
    have htn0 : H tn = none := htn
    clear hoth htied g1 g2 g3 g4 g5 g6 z1 z2 z3 z4 z5 z6 z7 z8
    refine ⟨fun σ' H' => ∃ x7 x8 x9 x10 x11 x12 E vs L, σ' = [some (.ref t), some (.int n), some (.int wd), some (.int dense), some (.ref tn), some (.ref od), some (.ref td), x7, x8, x9, x10, x11, x12] ∧ GS P w t hh H H' tn od td E vs L ∧ E.length = n ∧ L.length < E.length ∧ ∀ x ∈ E, x.2.2 = [], ?_, ?_⟩
    · refine ⟨_, rfl, _, _, rfl, rfl, _, rfl, by omega, by omega, for_range (lo := 0) (n := ((n : Int) - 1).toNat) (fun i σ' H' => ∃ x7 x8 x9 x10 x11 x12 E vs L, σ' = [some (.ref t), some (.int n), some (.int wd), some (.int dense), some (.ref tn), some (.ref od), some (.ref td), x7, x8, x9, x10, x11, x12] ∧ GS P w t hh H H' tn od td E vs L ∧ E.length = i + 1 ∧ L.length < E.length ∧ ∀ x ∈ E, x.2.2 = []) ?_ ?_ ?_⟩
      · exact ⟨_, _, _, _, _, _, _, _, _, rfl, gs0, rfl, (by show 0 < 1; decide), fun x hx => by rw [List.mem_singleton.mp hx]⟩
      · rintro i σ' H' hi ⟨x7, x8, x9, x10, x11, x12, E, vs, L, rfl, gs, hlen, hll, hempty⟩
        have hi' : i + 1 < n := by omega
        have cl : (E.map (·.1)).length = i + 1 := by rw [List.length_map, hlen]
        refine ⟨(by show 0 ≤ sizeLine; decide), fun rl hrl => ?_⟩
        have gs1 := gs.same (same_new (o := .lst []) hrl)
        have nr := gs.tin.ne hrl
        have nro : rl ≠ od := fun e => by
          rw [e, gs.ord] at hrl
          cases hrl
        -- the free cells beside those that are taken
        refine ⟨fun σ2 H2 => ∃ x9 x10 x11 rs, σ2 = [some (.ref t), some (.int n), some (.int wd), some (.int dense), some (.ref tn), some (.ref od), some (.ref td), some (.int (0 + (i : Int))), some (.ref rl), x9, x10, x11, x12] ∧ Same H' H2 ∧ H2 rl = some (.lst rs) ∧ EAll H2 rs (frees (E.map (·.1)) wd (E.map (·.1))), ?_, ?_⟩
        · refine ⟨_, rfl, od, rfl, ⟨_, SqL.of gs1.ord⟩, for_list (K := K) (a := od) (xs := vs) (fun k σ2 H2 => ∃ x9 x10 x11 rs, σ2 = [some (.ref t), some (.int n), some (.int wd), some (.int dense), some (.ref tn), some (.ref od), some (.ref td), some (.int (0 + (i : Int))), some (.ref rl), x9, x10, x11, x12] ∧ Same H' H2 ∧ H2 rl = some (.lst rs) ∧ EAll H2 rs (frees (E.map (·.1)) wd ((E.map (·.1)).take k))) ?_ ?_ ?_ ?_⟩
          · exact ⟨_, _, _, [], rfl, same_new hrl, upd_same, .nil⟩
          · rintro k σ2 H2 _ ⟨_, _, _, _, _, s2, _⟩
            exact SqL.of (s2 _ _ gs.ord)
          · rintro k x σ2 H2 hk ⟨x9, x10, x11, rs, rfl, s2, hrl2, hrs⟩
            obtain ⟨cb, c, rfl, hc, hcb⟩ := (gs.oc.mono (Tm.of s2)).get hk
            have hkl := (List.getElem?_eq_some_iff.mp hc).1
            refine ⟨cb, _, rfl, SqT.of hcb, rfl, _, _, rfl, _, _, rfl, rfl, ?_⟩
            refine ⟨fun σ3 H3 => ∃ x11 rs, σ3 = [some (.ref t), some (.int n), some (.int wd), some (.int dense), some (.ref tn), some (.ref od), some (.ref td), some (.int (0 + (i : Int))), some (.ref rl), some (.int c.1), some (.int c.2), x11, x12] ∧ Same H' H3 ∧ H3 rl = some (.lst rs) ∧ EAll H3 rs (frees (E.map (·.1)) wd ((E.map (·.1)).take (k + 1))), ?_, fun σ3 H3 z => by
              obtain ⟨x11, rs, e, a, b, d⟩ := z
              exact ⟨_, _, x11, rs, e, a, b, d⟩⟩
            refine ⟨_, rfl, _, rfl, _, _, rfl, rfl, (by show 2 ≤ sizeLine; decide), fun n1 h1 => ?_⟩
            refine ⟨_, rfl, _, _, rfl, rfl, _, rfl, (by show 2 ≤ sizeLine; decide), fun n2 h2 => ?_⟩
            refine ⟨_, rfl, _, rfl, _, _, rfl, rfl, (by show 2 ≤ sizeLine; decide), fun n3 h3 => ?_⟩
            refine ⟨_, rfl, _, _, rfl, rfl, _, rfl, (by show 2 ≤ sizeLine; decide), fun n4 h4 => ?_⟩
            refine ⟨(by show 4 ≤ sizeLine; decide), fun np h5 => ?_⟩
            obtain ⟨f1, f2, f3⟩ := four (c := c) h1 h2 h3 h4 h5 rfl
            refine ⟨np, rfl, ⟨_, SqT.of f2⟩, for_tup (K := K) (a := np) (xs := [.ref n1, .ref n2, .ref n3, .ref n4]) (fun m σ3 H3 => ∃ x11 rs, σ3 = [some (.ref t), some (.int n), some (.int wd), some (.int dense), some (.ref tn), some (.ref od), some (.ref td), some (.int (0 + (i : Int))), some (.ref rl), some (.int c.1), some (.int c.2), x11, x12] ∧ Same H' H3 ∧ Tm H2 H3 ∧ H3 np = some (.tup [.ref n1, .ref n2, .ref n3, .ref n4]) ∧ CAll H3 [.ref n1, .ref n2, .ref n3, .ref n4] (nbrs c) ∧ H3 rl = some (.lst rs) ∧ EAll H3 rs (frees (E.map (·.1)) wd ((E.map (·.1)).take k) ++ ((((nbrs c).take m).filter fun o => !decide (o ∈ E.map (·.1)) && inBox wd o).map fun o => (c, o)))) ?_ ?_ ?_ ?_⟩
            · refine ⟨_, rs, rfl, s2.trans f1, Tm.of f1, f2, f3, f1 _ _ hrl2, ?_⟩
              rw [List.take_zero, List.filter_nil, List.map_nil, List.append_nil]
              exact hrs.mono (Tm.of f1)
            · rintro m σ3 H3 _ ⟨_, _, _, _, _, z, _⟩
              exact SqT.of z
            · rintro m x σ3 H3 hm ⟨x11, rs, rfl, s3, tm3, hnp, hca, hrl3, hrs3⟩
              obtain ⟨ob, o, rfl, ho, hob⟩ := hca.get hm
              have gs3 := gs.same s3
              refine ⟨fun σ4 H4 => ∃ x11 rs, σ4 = [some (.ref t), some (.int n), some (.int wd), some (.int dense), some (.ref tn), some (.ref od), some (.ref td), some (.int (0 + (i : Int))), some (.ref rl), some (.int c.1), some (.int c.2), x11, x12] ∧ Same H' H4 ∧ Tm H2 H4 ∧ H4 np = some (.tup [.ref n1, .ref n2, .ref n3, .ref n4]) ∧ CAll H4 [.ref n1, .ref n2, .ref n3, .ref n4] (nbrs c) ∧ H4 rl = some (.lst rs) ∧ EAll H4 rs (frees (E.map (·.1)) wd ((E.map (·.1)).take k) ++ ((((nbrs c).take (m + 1)).filter fun o => !decide (o ∈ E.map (·.1)) && inBox wd o).map fun o => (c, o))), ?_, fun _ _ z => z⟩
              refine ⟨fun b H4 => H4 = H3 ∧ b = (!decide (o ∈ E.map (·.1)) && inBox wd o), ?_, ?_⟩
              · refine ⟨_, rfl, _, rfl, tn, _, rfl, DGet.t (k := keyC o) gs3.turn.dict hob, _, rfl, ?_⟩
                rw [turn_val]
                by_cases hin : o ∈ E.map (·.1)
                · rw [decide_eq_true hin]
                  exact iteF ⟨rfl, rfl⟩
                rw [decide_eq_false hin]
                refine iteT ?_
                refine ⟨_, rfl, ob, _, _, V.int o.1, rfl, rfl, SqT.of hob, rfl, _, rfl, _, rfl, _, _, rfl, rfl, _, rfl, ?_⟩
                refine ite2 (fun ha => ?_) (fun ha => ?_)
                · refine ⟨_, rfl, ob, _, _, V.int o.2, rfl, rfl, SqT.of hob, rfl, _, rfl, _, rfl, _, _, rfl, rfl, _, rfl, rfl, ?_⟩
                  unfold inBox absI
                  rw [ha]
                  rfl
                · refine ⟨rfl, ?_⟩
                  unfold inBox absI
                  rw [Bool.eq_false_iff.mpr ha]
                  rfl
              · rintro b H4 ⟨rfl, hb⟩
                have hfil : ((nbrs c).take (m + 1)).filter (fun o => !decide (o ∈ E.map (·.1)) && inBox wd o) = ((nbrs c).take m).filter (fun o => !decide (o ∈ E.map (·.1)) && inBox wd o) ++ (if b = true then [o] else []) := by
                  rw [take_snoc ho, List.filter_append]
                  congr 1
                  by_cases hbt : b = true
                  · rw [if_pos hbt, List.filter_cons_of_pos (by rw [← hb]; exact hbt), List.filter_nil]
                  · rw [if_neg hbt, List.filter_cons_of_neg (by rw [← hb]; exact hbt), List.filter_nil]
                rw [hfil]
                refine ite2 (fun hbt => ?_) (fun hbt => ?_)
                · rw [if_pos hbt, List.map_append, ← List.append_assoc]
                  refine ⟨_, rfl, .inl ⟨rfl, _, SqL.of hrl3⟩, _, rfl, _, rfl, (by show 2 ≤ sizeLine; decide), fun c1 hc1 => ?_⟩
                  have y1 := same_new (o := .tup [V.int c.1, V.int c.2]) hc1
                  refine ⟨_, rfl, (by show 2 ≤ sizeLine; decide), fun e1 he1 => ?_⟩
                  have y2 := same_new (o := .tup [V.ref c1, V.ref ob]) he1
                  have y3 := y1.trans y2
                  have tmr := Tm.lst (o := .lst (rs ++ [V.ref e1])) (y3 _ _ hrl3)
                  have tma := (Tm.of y3).trans tmr
                  refine ⟨rl, rs, _, rfl, rfl, y3 _ _ hrl3, ?_, _, rs ++ [.ref e1], rfl, (s3.trans y3).put hrl, tm3.trans tma, tma _ _ hnp trivial, hca.mono tma, upd_same, ?_⟩
                  · have lr := hrs3.len
                    rw [List.length_append, List.length_map] at lr
                    have l1 := frees_len (C := E.map (·.1)) (w := wd) (L := (E.map (·.1)).take k)
                    have l2 : ((E.map (·.1)).take k).length ≤ 40 := by rw [List.length_take, cl]; omega
                    have l3 : (((nbrs c).take m).filter fun o => !decide (o ∈ E.map (·.1)) && inBox wd o).length ≤ 4 := Nat.le_trans (List.length_filter_le _ _) (Nat.le_trans (List.length_take_le' ..) (Nat.le_refl _))
                    exact Nat.lt_of_le_of_lt (by omega : rs.length ≤ 164) (by decide)
                  · refine (hrs3.mono tma).append (.cons ⟨c1, ob, tmr _ _ upd_same trivial, ?_, hob.mono tma⟩ .nil)
                    exact tmr _ _ (y2 _ _ upd_same) trivial
                · rw [if_neg hbt, List.append_nil]
                  exact ⟨_, rs, rfl, s3, tm3, hnp, hca, hrl3, hrs3⟩
            · rintro σ3 H3 ⟨x11, rs, rfl, s3, tm3, hnp, hca, hrl3, hrs3⟩
              refine ⟨x11, rs, rfl, s3, hrl3, ?_⟩
              rw [frees_snoc hc]
              exact hrs3
          · rintro σ2 H2 ⟨x9, x10, x11, rs, rfl, s2, hrl2, hrs⟩
            rw [show (E.map (·.1)).take vs.length = E.map (·.1) from List.take_of_length_le (by rw [gs.oc.len]; exact Nat.le_refl _)] at hrs
            exact ⟨x9, x10, x11, rs, rfl, s2, hrl2, hrs⟩
        rintro σ2 H2 ⟨x9, x10, x11, rs, rfl, s2, hrl2, hrs⟩
        have gs2 := gs.same s2
        have hfn : 0 < (frees (E.map (·.1)) wd (E.map (·.1))).length := List.length_pos_iff.mpr (frees_ne hroom gs.zero (by omega))
        have hrl : rs.length = (frees (E.map (·.1)) wd (E.map (·.1))).length := hrs.len
        have hfl := frees_len (C := E.map (·.1)) (w := wd) (L := E.map (·.1))
        refine ⟨_, rfl, _, rfl, _, rfl, _, _, rfl, .inl ⟨_, SqL.of hrl2, rfl⟩, t, hh, _, rfl, by omega, by omega, gs2.tin, fun r H3 hr3 r3 T3 => ?_⟩
        have gs3 := gs2.spill r3 T3
        obtain ⟨⟨c, o⟩, hco⟩ : ∃ e, (frees (E.map (·.1)) wd (E.map (·.1)))[r]? = some e := ⟨_, List.getElem?_eq_getElem (by omega)⟩
        obtain ⟨hcC, hon, hoC, _⟩ := frees_mem (List.mem_of_getElem? hco)
        obtain ⟨eb, heb, hE⟩ := (hrs.mono (r3.tm gs2.tin)).get2 hco
        obtain ⟨b1, b2, hek, hb1, hb2⟩ := hE
        have hne : c ≠ o := fun e => nbrs_self c (by rw [← e] at hon; exact hon)
        refine ⟨rl, rs, _, .ref eb, rfl, rfl, SqL.of (r3 rl _ nr.1 nr.2 hrl2), atI_nat heb, eb, _, rfl, SqT.of hek, rfl, _, _, rfl, _, _, rfl, rfl, ?_⟩
        refine ⟨(by show 0 ≤ sizeLine; decide), fun l hl => ?_⟩
        have y1 := same_new (o := .lst []) hl
        have gs4 := gs3.same y1
        have nl := gs3.tin.ne hl
        have nltn : tn ≠ l := ne_of_none gs3.turn.dict hl
        have nlod : od ≠ l := ne_of_none gs3.ord hl
        have hb2' : CellAt (upd H3 l (.lst [])) b2 o := hb2.mono (Tm.of y1)
        have hb1' : CellAt (upd H3 l (.lst [])) b1 c := hb1.mono (Tm.of y1)
        refine ⟨_, rfl, _, rfl, tn, _, rfl, DPut.t (k := keyC o) gs4.turn.dict hb2' (by rw [List.length_map, hlen]; exact Nat.lt_of_lt_of_le (by omega : i + 1 < 40) (by decide)), ?_⟩
        rw [turn_put hoC]
        have ntod : tn ≠ od := ne_of gs4.turn.dict gs4.ord (fun z => nomatch z)
        have tmb : Tm (upd H3 l (.lst [])) (upd (upd H3 l (.lst [])) tn (.dT ((E ++ [(o, l, [])]).map fun (x : Ent) => (keyC x.1, .ref x.2.1)))) := Tm.dT gs4.turn.dict
        have hodb : (upd (upd H3 l (.lst [])) tn (.dT ((E ++ [(o, l, [])]).map fun (x : Ent) => (keyC x.1, .ref x.2.1)))) od = some (.lst vs) := by rw [upd_ne ntod.symm]; exact gs4.ord
        refine ⟨_, rfl, .inl ⟨rfl, _, SqL.of hodb⟩, _, rfl, od, vs, _, rfl, rfl, hodb, by rw [gs.oc.len, cl]; exact Nat.lt_of_lt_of_le (by omega : i + 1 < 40) (by decide), ?_⟩
        have tmc := tmb.trans (Tm.lst (o := .lst (vs ++ [V.ref b2])) hodb)
        -- what the three stores leave
        have hcell1 := hb1'.mono tmc
        have hcell2 := hb2'.mono tmc
        refine ⟨_, rfl, ?_⟩
        refine ⟨_, rfl, _, rfl, ?_⟩
        dsimp only [tNil]
        refine min_cells hcell1 hcell2 hne ?_
        refine ⟨_, rfl, _, rfl, ?_⟩
        dsimp only [tNil]
        refine max_cells hcell1 hcell2 hne ?_
        refine ⟨(by show 2 ≤ sizeLine; decide), fun kk hkk => ?_⟩
        obtain ⟨xs0, hxs0⟩ := gs4.tied.some
        have ntd1 : td ≠ tn := ne_of hxs0 gs4.turn.dict (fun z => by
          have z' : HO.ext _ = HO.dT _ := z
          cases z')
        have ntd2 : td ≠ od := ne_of hxs0 gs4.ord (fun z => by
          have z' : HO.ext _ = HO.lst _ := z
          cases z')
        have htc : TiedAt P w (upd (upd (upd H3 l (.lst [])) tn (.dT ((E ++ [(o, l, [])]).map fun (x : Ent) => (keyC x.1, .ref x.2.1)))) od (.lst (vs ++ [.ref b2]))) td L := gs4.tied.mono (by rw [upd_ne ntd2, upd_ne ntd1]) tmc
        have y7 := same_new (o := .tup [V.ref (if cellLt o c then b2 else b1), V.ref (if cellLt o c then b1 else b2)]) hkk
        -- the heap behind the stores, told again
        have lne : ∀ x ∈ E, x.2.1 ≠ l := fun x hx => by
          obtain ⟨us, hu, _⟩ := gs3.turn.rows x hx
          exact ne_of_none hu hl
        have rowsAt : ∀ x ∈ E, ∃ us, (upd (upd (upd H3 l (.lst [])) tn (.dT ((E ++ [(o, l, [])]).map fun (x : Ent) => (keyC x.1, .ref x.2.1)))) od (.lst (vs ++ [.ref b2]))) x.2.1 = some (.lst us) ∧ CAll (upd (upd (upd H3 l (.lst [])) tn (.dT ((E ++ [(o, l, [])]).map fun (x : Ent) => (keyC x.1, .ref x.2.1)))) od (.lst (vs ++ [.ref b2]))) us x.2.2 := fun x hx => by
          obtain ⟨us, hu, hc⟩ := gs4.turn.rows x hx
          refine ⟨us, ?_, hc.mono tmc⟩
          rw [upd_ne (gs4.oE x hx), upd_ne (ne_of hu gs4.turn.dict (fun z => nomatch z))]
          exact hu
        have keysE : (E ++ [((o, l, []) : Ent)]).map (·.1) = E.map (·.1) ++ [o] := List.map_append
        refine ⟨td, L, kk, key c o, rfl, rfl, tied_same htc y7, key_at (hcell1.mono (Tm.of y7)) (hcell2.mono (Tm.of y7)) upd_same, by omega, fun H7 hoth htied => ?_⟩
        have sub7 : ∀ (a : Addr) (u : HO), (upd (upd (upd H3 l (.lst [])) tn (.dT ((E ++ [(o, l, [])]).map fun (x : Ent) => (keyC x.1, .ref x.2.1)))) od (.lst (vs ++ [.ref b2]))) a = some u → a ≠ td → H7 a = some u := fun a u e na => by
          rw [hoth a na]
          exact y7 _ _ e
        have tm7 : Tm (upd (upd (upd H3 l (.lst [])) tn (.dT ((E ++ [(o, l, [])]).map fun (x : Ent) => (keyC x.1, .ref x.2.1)))) od (.lst (vs ++ [.ref b2]))) H7 := fun a u e ht => sub7 a u e fun z => by
          rw [z, upd_ne ntd2, upd_ne ntd1, hxs0] at e
          cases e
          exact ht
        have nxt1 : ∀ x ∈ E, x.2.1 ≠ td := fun x hx => by
          obtain ⟨us, hu, _⟩ := gs4.turn.rows x hx
          exact ne_of hu hxs0 (fun z => by
            have z' : HO.lst us = HO.ext _ := z
            cases z')
        have nltd : l ≠ td := ne_of (upd_same : (upd H3 l (.lst [])) l = some (.lst [])) hxs0 (fun z => by
          have z' : HO.lst [] = HO.ext _ := z
          cases z')
        refine ⟨_, _, _, _, _, _, E ++ [(o, l, [])], vs ++ [.ref b2], L ++ [key c o], rfl, ⟨?_, ?_, ⟨?_, ?_, ?_, ?_, ?_⟩, ?_, ?_, htied, ?_, gs.ofar, ?_, ?_, ?_⟩, ?_, ?_, ?_⟩
        · intro a u n1 n2 e
          have e3 := gs3.rst a u n1 n2 e
          refine sub7 a u ?_ (ne_of_none e htd0)
          rw [upd_ne (ne_of_none e hod'), upd_ne (ne_of_none e htn0)]
          exact y1 _ _ e3
        · have Tc := ((gs4.tin).put (o := .dT ((E ++ [(o, l, [])]).map fun (x : Ent) => (keyC x.1, .ref x.2.1))) (hT.ne htn0).1.symm (hT.ne htn0).2.symm).put (o := .lst (vs ++ [V.ref b2])) gs.ofar.1.symm gs.ofar.2.symm
          obtain ⟨cs, m, f1, f2, f3⟩ := Tc
          exact ⟨cs, m, sub7 _ _ f1 (hT.ne htd0).1.symm, sub7 _ _ f2 (hT.ne htd0).2.symm, f3⟩
        · refine sub7 _ _ ?_ ntd1.symm
          rw [upd_ne ntod, upd_same]
        · intro x hx
          rcases List.mem_append.mp hx with z | z
          · obtain ⟨us, hu, hc⟩ := rowsAt x z
            exact ⟨us, sub7 _ _ hu (nxt1 x z), hc.mono tm7⟩
          · rw [List.mem_singleton.mp z]
            refine ⟨[], sub7 _ _ ?_ nltd, .nil⟩
            show (upd (upd (upd H3 l (.lst [])) tn _) od _) l = _
            rw [upd_ne nlod.symm, upd_ne nltn.symm, upd_same]
        · rw [List.map_append, List.nodup_append]
          refine ⟨gs.turn.apart, by simp, fun x hx y hy e => ?_⟩
          have hy' : y = l := by simpa using hy
          rw [hy'] at e
          obtain ⟨z, hz, rfl⟩ := List.mem_map.mp hx
          exact lne z hz e
        · rw [keysE, List.nodup_append]
          refine ⟨gs.turn.nd, by simp, fun x hx y hy e => ?_⟩
          rw [List.mem_singleton.mp hy] at e
          exact hoC (e ▸ hx)
        · intro x hx
          rcases List.mem_append.mp hx with z | z
          · exact gs.turn.far x z
          · rw [List.mem_singleton.mp z]
            exact ⟨nl.1, nl.2⟩
        · exact sub7 _ _ upd_same ntd2.symm
        · rw [keysE]
          exact ((gs4.oc.mono tmc).append (.cons hcell2 .nil)).mono tm7
        · intro x hx
          rcases List.mem_append.mp hx with z | z
          · exact gs.oE x z
          · rw [List.mem_singleton.mp z]
            exact nlod.symm
        · rw [keysE]
          refine gs.ties.grow hcC hon fun h1 => ?_
          obtain ⟨y, hy⟩ := List.length_eq_one_iff.mp h1
          have hcy : c = y := by
            rw [hy] at hcC
            simpa using hcC
          rw [hy, hcy]
        · rw [keysE]
          exact List.mem_append_left _ gs.zero
        · intro x hx
          rcases List.mem_append.mp hx with z | z
          · exact gs.new x z
          · rw [List.mem_singleton.mp z]
            exact gs3.rst.none gs3.tin hl
        · rw [List.length_append, hlen]
          rfl
        · rw [List.length_append, List.length_append, List.length_singleton, List.length_singleton]
          omega
        · intro x hx
          rcases List.mem_append.mp hx with z | z
          · exact hempty x z
          · rw [List.mem_singleton.mp z]
      · rintro σ' H' ⟨x7, x8, x9, x10, x11, x12, E, vs, L, rfl, gs, hlen, hll, hempty⟩
        exact ⟨x7, x8, x9, x10, x11, x12, E, vs, L, rfl, gs, by omega, hll, hempty⟩
    rintro σ1 H4 ⟨x7, x8, x9, x10, x11, x12, E, vs, L, rfl, gs, hlen, hll, hempty⟩
    have cl : (E.map (·.1)).length = n := by rw [List.length_map, hlen]
    -- further ties
    refine ⟨fun σ' H' => ∃ x9 x10 x11 L, σ' = [some (.ref t), some (.int n), some (.int wd), some (.int dense), some (.ref tn), some (.ref od), some (.ref td), x7, x8, x9, x10, x11, x12] ∧ GS P w t hh H H' tn od td E vs L, ?_, ?_⟩
    · refine ⟨_, rfl, od, rfl, ⟨_, SqL.of gs.ord⟩, for_list (K := K) (a := od) (xs := vs) (fun k σ' H' => ∃ x9 x10 x11 L, σ' = [some (.ref t), some (.int n), some (.int wd), some (.int dense), some (.ref tn), some (.ref od), some (.ref td), x7, x8, x9, x10, x11, x12] ∧ GS P w t hh H H' tn od td E vs L ∧ L.length ≤ n + 2 * k) ?_ ?_ ?_ ?_⟩
      · exact ⟨_, _, _, L, rfl, gs, by omega⟩
      · rintro k σ' H' _ ⟨_, _, _, _, _, g, _⟩
        exact SqL.of g.ord
      · rintro k x σ' H' hk ⟨x9, x10, x11, L, rfl, gs, hL⟩
        obtain ⟨cb, c, rfl, hc, hcb⟩ := gs.oc.get hk
        have hkl : k < n := by
          have := (List.getElem?_eq_some_iff.mp hc).1
          omega
        refine ⟨cb, _, rfl, SqT.of hcb, rfl, _, _, rfl, _, _, rfl, rfl, ?_⟩
        refine ⟨fun σ3 H3 => ∃ x11 L, σ3 = [some (.ref t), some (.int n), some (.int wd), some (.int dense), some (.ref tn), some (.ref od), some (.ref td), x7, x8, some (.int c.1), some (.int c.2), x11, x12] ∧ GS P w t hh H H3 tn od td E vs L ∧ L.length ≤ n + 2 * (k + 1), ?_, fun σ3 H3 z => by
          obtain ⟨x11, L, e, a, b⟩ := z
          exact ⟨_, _, x11, L, e, a, b⟩⟩
        refine ⟨_, rfl, _, _, rfl, rfl, _, rfl, (by show 2 ≤ sizeLine; decide), fun n1 h1 => ?_⟩
        have u1 := same_new (o := .tup [V.int (c.1 + 1), V.int c.2]) h1
        refine ⟨_, rfl, _, rfl, _, _, rfl, rfl, (by show 2 ≤ sizeLine; decide), fun n2 h2 => ?_⟩
        have u2 := same_new (o := .tup [V.int c.1, V.int (c.2 + 1)]) h2
        refine ⟨(by show 2 ≤ sizeLine; decide), fun np h5 => ?_⟩
        have u3 := same_new (o := .tup [V.ref n1, V.ref n2]) h5
        have ca : CAll (upd (upd (upd H' n1 (.tup [.int (c.1 + 1), .int c.2])) n2 (.tup [.int c.1, .int (c.2 + 1)])) np (.tup [.ref n1, .ref n2])) [.ref n1, .ref n2] (nb2 c) := .cons (u3 _ _ (u2 _ _ upd_same)) (.cons (u3 _ _ upd_same) .nil)
        refine ⟨np, rfl, ⟨_, SqT.of upd_same⟩, for_tup (K := K) (a := np) (xs := [.ref n1, .ref n2]) (fun m σ3 H3 => ∃ x11 L, σ3 = [some (.ref t), some (.int n), some (.int wd), some (.int dense), some (.ref tn), some (.ref od), some (.ref td), x7, x8, some (.int c.1), some (.int c.2), x11, x12] ∧ GS P w t hh H H3 tn od td E vs L ∧ H3 np = some (.tup [.ref n1, .ref n2]) ∧ CAll H3 [.ref n1, .ref n2] (nb2 c) ∧ L.length ≤ n + 2 * k + m) ?_ ?_ ?_ ?_⟩
        · exact ⟨_, L, rfl, gs.same (u1.trans (u2.trans u3)), upd_same, ca, hL⟩
        · rintro m σ3 H3 _ ⟨_, _, _, _, z, _⟩
          exact SqT.of z
        · rintro m x σ3 H3 hm ⟨x11, L, rfl, gs3, hnp, hca, hL3⟩
          obtain ⟨ob, o, rfl, ho, hob⟩ := hca.get hm
          have hm2 : m < 2 := (List.getElem?_eq_some_iff.mp hm).1
          obtain ⟨hon, hok⟩ := nb2_mem (List.mem_of_getElem? ho)
          refine ⟨fun σ4 H4 => ∃ x11 L, σ4 = [some (.ref t), some (.int n), some (.int wd), some (.int dense), some (.ref tn), some (.ref od), some (.ref td), x7, x8, some (.int c.1), some (.int c.2), x11, x12] ∧ GS P w t hh H H4 tn od td E vs L ∧ H4 np = some (.tup [.ref n1, .ref n2]) ∧ CAll H4 [.ref n1, .ref n2] (nb2 c) ∧ L.length ≤ n + 2 * k + (m + 1), ?_, fun _ _ z => z⟩
          refine ⟨_, rfl, _, rfl, tn, _, rfl, DGet.t (k := keyC o) gs3.turn.dict hob, _, rfl, ?_⟩
          rw [turn_val]
          by_cases hin : o ∈ E.map (·.1)
          · rw [decide_eq_true hin]
            refine iteT ?_
            refine ⟨_, rfl, t, hh, 10, rfl, by decide, by decide, gs3.tin, fun r H5 _ r5 T5 => ?_⟩
            have gs5 := gs3.spill r5 T5
            have tm5 := r5.tm gs3.tin
            refine ⟨_, rfl, _, _, rfl, rfl, _, rfl, ?_⟩
            refine ite2 (fun _ => ?_) (fun _ => ⟨_, L, rfl, gs5, tm5 _ _ hnp trivial, hca.mono tm5, by omega⟩)
            refine ⟨_, rfl, _, rfl, _, rfl, (by show 2 ≤ sizeLine; decide), fun c1 hc1 => ?_⟩
            have v1 := same_new (o := .tup [V.int c.1, V.int c.2]) hc1
            refine ⟨_, rfl, (by show 2 ≤ sizeLine; decide), fun kk hkk => ?_⟩
            have v2 := same_new (o := .tup [V.ref c1, V.ref ob]) hkk
            have gs6 := gs5.same (v1.trans v2)
            have tm6 := tm5.trans (Tm.of (v1.trans v2))
            refine ⟨td, L, kk, (c, o), rfl, rfl, gs6.tied, ⟨c1, ob, upd_same, v2 _ _ upd_same, hob.mono tm6⟩, by omega, fun H7 hoth htied => ?_⟩
            have tm7 := tm6.trans (tm_tie gs6.tied hoth)
            refine ⟨_, L ++ [(c, o)], rfl, gs6.tie hoth htied htd0 hT (gs6.ties.more (List.mem_of_getElem? hc) hin hon hok), tm7 _ _ hnp trivial, hca.mono tm7, ?_⟩
            rw [List.length_append, List.length_singleton]
            omega
          · rw [decide_eq_false hin]
            exact iteF (iteF ⟨_, L, rfl, gs3, hnp, hca, by omega⟩)
        · rintro σ3 H3 ⟨x11, L, rfl, gs3, hnp, hca, hL3⟩
          exact ⟨x11, L, rfl, gs3, by
            have : [V.ref n1, V.ref n2].length = 2 := rfl
            omega⟩
      · rintro σ' H' ⟨x9, x10, x11, L, rfl, gs, _⟩
        exact ⟨x9, x10, x11, L, rfl, gs⟩
    rintro σ2 H5 ⟨x9, x10, x11, L, rfl, gs⟩
    have rowsNil : ∀ (j : Nat) (x : Ent), E[j]? = some x → x.2.2 = [] := fun j x hx => hempty x (List.mem_of_getElem? hx)
    refine ⟨fun σ' H' => ∃ x9 x10 x11 E2, σ' = [some (.ref t), some (.int n), some (.int wd), some (.int dense), some (.ref tn), some (.ref od), some (.ref td), x7, x8, x9, x10, x11, x12] ∧ GS P w t hh H H' tn od td E2 vs L ∧ E2.map (·.1) = E.map (·.1) ∧ ∀ (j : Nat) (x : Ent), E2[j]? = some x → x.2.2 = rowOf L x.1, ?_, ?_⟩
    · refine ⟨_, rfl, od, rfl, ⟨_, SqL.of gs.ord⟩, for_list (K := K) (a := od) (xs := vs) (fun k σ' H' => ∃ x9 x10 x11 E2, σ' = [some (.ref t), some (.int n), some (.int wd), some (.int dense), some (.ref tn), some (.ref od), some (.ref td), x7, x8, x9, x10, x11, x12] ∧ GS P w t hh H H' tn od td E2 vs L ∧ E2.map (·.1) = E.map (·.1) ∧ ∀ (j : Nat) (x : Ent), E2[j]? = some x → x.2.2 = if j < k then rowOf L x.1 else []) ?_ ?_ ?_ ?_⟩
      · exact ⟨_, _, _, E, rfl, gs, rfl, fun j x hx => by rw [if_neg (Nat.not_lt_zero _)]; exact rowsNil j x hx⟩
      · rintro k σ' H' _ ⟨_, _, _, _, _, g, _⟩
        exact SqL.of g.ord
      · rintro k x σ' H' hk ⟨x9, x10, x11, E2, rfl, gs, hkeys, hrows⟩
        obtain ⟨cb, c, rfl, hc, hcb⟩ := gs.oc.get hk
        obtain ⟨⟨c', l, r0⟩, hE2, hce⟩ : ∃ x, E2[k]? = some x ∧ x.1 = c := by
          rw [List.getElem?_map] at hc
          cases e : E2[k]? with
          | none => rw [e] at hc; cases hc
          | some x => rw [e] at hc; exact ⟨x, rfl, Option.some.inj hc⟩
        dsimp only at hce
        subst hce
        have hr0 : r0 = [] := by
          have := hrows k _ hE2
          rw [if_neg (Nat.lt_irrefl _)] at this
          exact this
        subst hr0
        refine ⟨cb, _, rfl, SqT.of hcb, rfl, _, _, rfl, _, _, rfl, rfl, ?_⟩
        refine ⟨fun σ3 H3 => ∃ x11 E2, σ3 = [some (.ref t), some (.int n), some (.int wd), some (.int dense), some (.ref tn), some (.ref od), some (.ref td), x7, x8, some (.int c'.1), some (.int c'.2), x11, x12] ∧ GS P w t hh H H3 tn od td E2 vs L ∧ E2.map (·.1) = E.map (·.1) ∧ ∀ (j : Nat) (x : Ent), E2[j]? = some x → x.2.2 = if j < k + 1 then rowOf L x.1 else [], ?_, fun σ3 H3 z => by
          obtain ⟨x11, E2, e, a, b⟩ := z
          exact ⟨_, _, x11, E2, e, a, b⟩⟩
        refine ⟨_, rfl, _, rfl, _, _, rfl, rfl, (by show 2 ≤ sizeLine; decide), fun n1 h1 => ?_⟩
        refine ⟨_, rfl, _, _, rfl, rfl, _, rfl, (by show 2 ≤ sizeLine; decide), fun n2 h2 => ?_⟩
        refine ⟨_, rfl, _, rfl, _, _, rfl, rfl, (by show 2 ≤ sizeLine; decide), fun n3 h3 => ?_⟩
        refine ⟨_, rfl, _, _, rfl, rfl, _, rfl, (by show 2 ≤ sizeLine; decide), fun n4 h4 => ?_⟩
        refine ⟨(by show 4 ≤ sizeLine; decide), fun np h5 => ?_⟩
        obtain ⟨f1, f2, f3⟩ := four (c := c') h1 h2 h3 h4 h5 rfl
        refine ⟨np, rfl, ⟨_, SqT.of f2⟩, for_tup (K := K) (a := np) (xs := [.ref n1, .ref n2, .ref n3, .ref n4]) (fun m σ3 H3 => ∃ x11 E2, σ3 = [some (.ref t), some (.int n), some (.int wd), some (.int dense), some (.ref tn), some (.ref od), some (.ref td), x7, x8, some (.int c'.1), some (.int c'.2), x11, x12] ∧ GS P w t hh H H3 tn od td E2 vs L ∧ E2.map (·.1) = E.map (·.1) ∧ H3 np = some (.tup [.ref n1, .ref n2, .ref n3, .ref n4]) ∧ CAll H3 [.ref n1, .ref n2, .ref n3, .ref n4] (nbrs c') ∧ (∀ (j : Nat) (x : Ent), j ≠ k → E2[j]? = some x → x.2.2 = if j < k then rowOf L x.1 else []) ∧ E2[k]? = some (c', l, ((nbrs c').take m).filter fun o => decide (key c' o ∈ L))) ?_ ?_ ?_ ?_⟩
        · refine ⟨_, E2, rfl, gs.same f1, hkeys, f2, f3, fun j x _ hx => hrows j x hx, ?_⟩
          rw [List.take_zero, List.filter_nil]
          exact hE2
        · rintro m σ3 H3 _ ⟨_, _, _, _, _, z, _⟩
          exact SqT.of z
        · rintro m x σ3 H3 hm ⟨x11, E3, rfl, gs3, hkeys3, hnp, hca, hoth, hE3⟩
          obtain ⟨ob, o, rfl, ho, hob⟩ := hca.get hm
          have hne : c' ≠ o := fun e => nbrs_self c' (by rw [← e] at ho; exact List.mem_of_getElem? ho)
          refine ⟨fun σ4 H4 => ∃ x11 E2, σ4 = [some (.ref t), some (.int n), some (.int wd), some (.int dense), some (.ref tn), some (.ref od), some (.ref td), x7, x8, some (.int c'.1), some (.int c'.2), x11, x12] ∧ GS P w t hh H H4 tn od td E2 vs L ∧ E2.map (·.1) = E.map (·.1) ∧ H4 np = some (.tup [.ref n1, .ref n2, .ref n3, .ref n4]) ∧ CAll H4 [.ref n1, .ref n2, .ref n3, .ref n4] (nbrs c') ∧ (∀ (j : Nat) (x : Ent), j ≠ k → E2[j]? = some x → x.2.2 = if j < k then rowOf L x.1 else []) ∧ E2[k]? = some (c', l, ((nbrs c').take (m + 1)).filter fun o => decide (key c' o ∈ L)), ?_, fun _ _ z => z⟩
          refine ⟨_, rfl, _, rfl, (by show 2 ≤ sizeLine; decide), fun c1 hc1 => ?_⟩
          have v1 := same_new (o := .tup [V.int c'.1, V.int c'.2]) hc1
          refine ⟨_, rfl, ?_⟩
          dsimp only [tNil]
          refine min_cells (a := c') (b := o) upd_same (hob.mono (Tm.of v1)) hne ?_
          refine ⟨_, rfl, _, rfl, (by show 2 ≤ sizeLine; decide), fun c2 hc2 => ?_⟩
          have v2 := same_new (o := .tup [V.int c'.1, V.int c'.2]) hc2
          refine ⟨_, rfl, ?_⟩
          dsimp only [tNil]
          refine max_cells (a := c') (b := o) upd_same (hob.mono (Tm.of (v1.trans v2))) hne ?_
          refine ⟨(by show 2 ≤ sizeLine; decide), fun kk hkk => ?_⟩
          have v3 := same_new (o := .tup [V.ref (if cellLt o c' then ob else c1), V.ref (if cellLt o c' then c2 else ob)]) hkk
          have vall := v1.trans (v2.trans v3)
          have gs4 := gs3.same vall
          have hcell1 : CellAt _ c1 c' := v3 _ _ (v2 _ _ upd_same)
          have hcell2 : CellAt _ c2 c' := v3 _ _ upd_same
          have hob4 := hob.mono (Tm.of vall)
          refine ⟨_, rfl, td, L, kk, key c' o, rfl, rfl, gs4.tied, key_at2 hcell1 hcell2 hob4 upd_same, _, rfl, ?_⟩
          have hfil : ((nbrs c').take (m + 1)).filter (fun o => decide (key c' o ∈ L)) = ((nbrs c').take m).filter (fun o => decide (key c' o ∈ L)) ++ (if key c' o ∈ L then [o] else []) := by
            rw [take_snoc ho, List.filter_append]
            congr 1
            by_cases hb : key c' o ∈ L
            · rw [if_pos hb, List.filter_cons_of_pos (by simpa using hb), List.filter_nil]
            · rw [if_neg hb, List.filter_cons_of_neg (by simpa using hb), List.filter_nil]
          rw [hfil]
          by_cases hb : key c' o ∈ L
          · rw [decide_eq_true hb]
            rw [if_pos hb]
            refine iteT ?_
            refine ⟨_, rfl, _, rfl, _, rfl, (by show 2 ≤ sizeLine; decide), fun c3 hc3 => ?_⟩
            have v4 := same_new (o := .tup [V.int c'.1, V.int c'.2]) hc3
            have gs5 := gs4.same v4
            obtain ⟨us, hus, hcu⟩ := gs5.turn.rows _ (List.mem_of_getElem? hE3)
            refine ⟨tn, .ref l, rfl, ?_, .inl ⟨rfl, _, SqL.of hus⟩, ?_⟩
            · have z := DGet.t (k := keyC c') gs5.turn.dict (b := c3) upd_same
              rw [turn_get gs5.turn.nd (List.mem_of_getElem? hE3)] at z
              exact z
            have ul : us.length ≤ 4 := by
              rw [hcu.len]
              exact Nat.le_trans (List.length_filter_le _ _) (by rw [List.length_take]; exact Nat.min_le_right _ _)
            refine ⟨_, rfl, l, us, _, rfl, rfl, hus, Nat.lt_of_le_of_lt ul (by decide), ?_⟩
            have gs6 := gs5.app hE3 hus hcu (hob4.mono (Tm.of v4))
            have tml := (Tm.of (vall.trans v4)).trans (Tm.lst (o := .lst (us ++ [V.ref ob])) hus)
            obtain ⟨k1, _, _⟩ := set_keys (r' := ((nbrs c').take m).filter (fun o => decide (key c' o ∈ L)) ++ [o]) hE3
            refine ⟨_, _, rfl, gs6, by rw [k1]; exact hkeys3, tml _ _ hnp trivial, hca.mono tml, fun j x hj hx => ?_, ?_⟩
            · rw [List.getElem?_set_ne (fun e => hj e.symm)] at hx
              exact hoth j x hj hx
            · rw [List.getElem?_set_self (List.getElem?_eq_some_iff.mp hE3).1]
          · rw [decide_eq_false hb, if_neg hb, List.append_nil]
            exact iteF ⟨_, E3, rfl, gs4, hkeys3, vall _ _ hnp, hca.mono (Tm.of vall), hoth, hE3⟩
        · rintro σ3 H3 ⟨x11, E3, rfl, gs3, hkeys3, hnp, hca, hoth, hE3⟩
          refine ⟨x11, E3, rfl, gs3, hkeys3, fun j x hx => ?_⟩
          by_cases hj : j = k
          · subst hj
            rw [hE3] at hx
            cases hx
            rw [if_pos (Nat.lt_succ_self _)]
            rfl
          · rw [hoth j x hj hx]
            by_cases hlt : j < k
            · rw [if_pos hlt, if_pos (by omega)]
            · rw [if_neg hlt, if_neg (by omega)]
      · rintro σ' H' ⟨x9, x10, x11, E2, rfl, gs, hkeys, hrows⟩
        refine ⟨x9, x10, x11, E2, rfl, gs, hkeys, fun j x hx => ?_⟩
        have hj := (List.getElem?_eq_some_iff.mp hx).1
        have hvl := gs.oc.len
        rw [List.length_map] at hvl
        rw [hrows j x hx, if_pos (by omega)]
    rintro σ3 H6 ⟨x9, x10, x11, E2, rfl, gs, hkeys, hrows⟩
    have hn : E2.length = n := by
      have := congrArg List.length hkeys
      rw [List.length_map, cl] at this
      exact this
    refine ⟨_, rfl, q tn E2 H6 gs.rst gs.tin gs.turn ?_ hn⟩
    have e : (E2.map fun x => (x.1, x.2.2)) = (E2.map (·.1)).map fun c => (c, rowOf L c) := by
      rw [List.map_map]
      refine List.map_congr_left fun x hx => ?_
      obtain ⟨j, hj⟩ := List.mem_iff_getElem?.mp hx
      show (x.1, x.2.2) = (x.1, rowOf L x.1)
      rw [hrows j x hj]
    rw [e]
    exact GOk.grid gs.turn.nd (by rw [List.length_map, hn]; exact hn2) gs.ties
end
end K2
namespace K2
open PySem PyProof.Rows L2 HD HT
/-! ### a cell of two ways taken out, in plain words -/
def rep (c x : Cell) (r : List Cell) : List Cell := r.map fun y => if y = c then x else y
theorem rep_mem {c x : Cell} {r : List Cell} {y : Cell} : y ∈ rep c x r ↔ (y ∈ r ∧ y ≠ c) ∨ (y = x ∧ c ∈ r) := by
  unfold rep
  rw [List.mem_map]
  constructor
  · rintro ⟨z, hz, rfl⟩
    by_cases h : z = c
    · rw [if_pos h]
      exact .inr ⟨rfl, h ▸ hz⟩
    · rw [if_neg h]
      exact .inl ⟨hz, h⟩
  · rintro (⟨h, hc⟩ | ⟨rfl, h⟩)
    · exact ⟨y, h, if_neg hc⟩
    · exact ⟨c, h, if_pos rfl⟩
theorem rep_nodup {c x : Cell} {r : List Cell} (nd : r.Nodup) (hx : x ∉ r) : (rep c x r).Nodup := by
  refine nodup_map_on (fun a ha b hb e => ?_) nd
  by_cases h1 : a = c <;> by_cases h2 : b = c
  · rw [h1, h2]
  · rw [if_pos h1, if_neg h2] at e
    exact absurd (e ▸ hb) hx
  · rw [if_neg h1, if_pos h2] at e
    exact absurd (e ▸ ha) hx
  · rw [if_neg h1, if_neg h2] at e
    exact e
theorem rep_set {c x : Cell} {r : List Cell} {j : Nat} (nd : r.Nodup) (hj : r[j]? = some c) : r.set j x = rep c x r := by
  refine List.ext_getElem? fun k => ?_
  unfold rep
  rw [List.getElem?_set, List.getElem?_map]
  by_cases h : j = k
  · subst h
    rw [if_pos rfl, if_pos (List.getElem?_eq_some_iff.mp hj).1, hj]
    simp
  · rw [if_neg h]
    cases e : r[k]? with
    | none => rfl
    | some y =>
      have : y ≠ c := fun z => h (nd_ix nd hj (by rw [e, z]))
      simp [this]
abbrev Gr := List (Cell × List Cell)
theorem same_key {G : Gr} (nd : (G.map (·.1)).Nodup) {g q : Cell × List Cell} (hg : g ∈ G) (hq : q ∈ G) (e : g.1 = q.1) : g = q := by
  obtain ⟨i, hi⟩ := List.mem_iff_getElem?.mp hg
  obtain ⟨j, hj⟩ := List.mem_iff_getElem?.mp hq
  have : i = j := nd_ix nd (by rw [List.getElem?_map, hi]; rfl) (by rw [List.getElem?_map, hj]; exact congrArg some e.symm)
  subst this
  rw [hi] at hj
  exact Option.some.inj hj
def newRow (c a1 a2 : Cell) (g : Cell × List Cell) : List Cell := if g.1 = a1 then rep c a2 g.2 else if g.1 = a2 then rep c a1 g.2 else g.2
def smoothG (G : Gr) (c a1 a2 : Cell) : Gr := (G.filter fun g => decide (g.1 ≠ c)).map fun g => (g.1, newRow c a1 a2 g)
theorem GOk.smooth {G : Gr} (h : GOk G) {c a1 a2 : Cell} (hc : (c, [a1, a2]) ∈ G) (hno : ∀ g ∈ G, g.1 = a1 → a2 ∉ g.2) : GOk (smoothG G c a1 a2) := by
  have hne : a1 ≠ a2 := by
    have := h.rnd _ hc
    simpa using this
  have c1 : c ≠ a1 ∧ c ≠ a2 := by
    have := h.self _ hc
    simpa [not_or] using this
  -- who has c
  have has : ∀ g ∈ G, c ∈ g.2 ↔ (g.1 = a1 ∨ g.1 = a2) := fun g hg => by
    constructor
    · intro hm
      obtain ⟨q, hq, e, hgq⟩ := h.sym g hg c hm
      rw [same_key h.nd hq hc e] at hgq
      simpa using hgq
    · intro hm
      have : g.1 ∈ [a1, a2] := by simpa using hm
      obtain ⟨q, hq, e, hcq⟩ := h.sym _ hc g.1 this
      rw [← same_key h.nd hq hg e]
      exact hcq
  have hno2 : ∀ g ∈ G, g.1 = a2 → a1 ∉ g.2 := fun g hg e hm => by
    obtain ⟨q, hq, e2, h2⟩ := h.sym g hg a1 hm
    exact hno q hq e2 (e ▸ h2)
  have mem : ∀ g ∈ smoothG G c a1 a2, ∃ o ∈ G, o.1 ≠ c ∧ g = (o.1, newRow c a1 a2 o) := fun g hg => by
    obtain ⟨o, ho, rfl⟩ := List.mem_map.mp hg
    obtain ⟨h1, h2⟩ := List.mem_filter.mp ho
    exact ⟨o, h1, of_decide_eq_true h2, rfl⟩
  have back : ∀ o ∈ G, o.1 ≠ c → (o.1, newRow c a1 a2 o) ∈ smoothG G c a1 a2 := fun o ho hoc => List.mem_map.mpr ⟨o, List.mem_filter.mpr ⟨ho, decide_eq_true hoc⟩, rfl⟩
  refine ⟨?_, fun g hg => ?_, fun g hg => ?_, fun g hg => ?_, fun g hg b hb => ?_, fun g hg => ?_⟩
  · unfold smoothG
    rw [List.map_map]
    exact h.nd.sublist (List.Sublist.map (fun g : Cell × List Cell => g.1) List.filter_sublist)
  · obtain ⟨o, ho, hoc, rfl⟩ := mem g hg
    show (newRow c a1 a2 o).Nodup
    unfold newRow
    split
    · rename_i e
      exact rep_nodup (h.rnd o ho) (hno o ho e)
    · split
      · rename_i e
        exact rep_nodup (h.rnd o ho) (hno2 o ho e)
      · exact h.rnd o ho
  · obtain ⟨o, ho, hoc, rfl⟩ := mem g hg
    show newRow c a1 a2 o ≠ []
    have h0 := h.rne o ho
    unfold newRow rep
    split
    · simpa using h0
    · split
      · simpa using h0
      · exact h0
  · obtain ⟨o, ho, hoc, rfl⟩ := mem g hg
    show o.1 ∉ newRow c a1 a2 o
    have h0 := h.self o ho
    unfold newRow
    split
    · rename_i e
      rw [rep_mem]
      rintro (⟨z, _⟩ | ⟨z, _⟩)
      · exact h0 z
      · exact hne (e.symm.trans z)
    · split
      · rename_i e
        rw [rep_mem]
        rintro (⟨z, _⟩ | ⟨z, _⟩)
        · exact h0 z
        · exact hne (z.symm.trans e)
      · exact h0
  · obtain ⟨o, ho, hoc, rfl⟩ := mem g hg
    dsimp only at hb ⊢
    -- an old neighbour that isn't c
    have old : b ∈ o.2 → b ≠ c → ∃ q ∈ smoothG G c a1 a2, q.1 = b ∧ o.1 ∈ q.2 := fun hb hbc => by
      obtain ⟨q, hq, e, hm⟩ := h.sym o ho b hb
      refine ⟨_, back q hq (by rw [e]; exact hbc), e, ?_⟩
      show o.1 ∈ newRow c a1 a2 q
      unfold newRow
      split
      · exact rep_mem.mpr (.inl ⟨hm, hoc⟩)
      · split
        · exact rep_mem.mpr (.inl ⟨hm, hoc⟩)
        · exact hm
    unfold newRow at hb
    split at hb
    · rename_i e
      rcases rep_mem.mp hb with ⟨z, zc⟩ | ⟨rfl, _⟩
      · exact old z zc
      · obtain ⟨q, hq, e2, hcq⟩ := h.sym _ hc b (by simp)
        refine ⟨_, back q hq (by rw [e2]; exact c1.2.symm), e2, ?_⟩
        show o.1 ∈ newRow c a1 b q
        unfold newRow
        rw [if_neg (by rw [e2]; exact hne.symm), if_pos e2]
        exact rep_mem.mpr (.inr ⟨e, hcq⟩)
    · split at hb
      · rename_i e
        rcases rep_mem.mp hb with ⟨z, zc⟩ | ⟨rfl, _⟩
        · exact old z zc
        · obtain ⟨q, hq, e2, hcq⟩ := h.sym _ hc b (by simp)
          refine ⟨_, back q hq (by rw [e2]; exact c1.1.symm), e2, ?_⟩
          show o.1 ∈ newRow c b a2 q
          unfold newRow
          rw [if_pos e2]
          exact rep_mem.mpr (.inr ⟨e, hcq⟩)
      · rename_i n1 n2
        exact old hb fun z => ((has o ho).mp (z ▸ hb)).elim n1 n2
  · obtain ⟨o, ho, hoc, rfl⟩ := mem g hg
    show (newRow c a1 a2 o).length ≤ 4
    have h0 := h.deg o ho
    unfold newRow rep
    split
    · rw [List.length_map]
      exact h0
    · split
      · rw [List.length_map]
        exact h0
      · exact h0
end K2
namespace K2
open PySem PyProof.Rows L2 HD HT
theorem perm_of_map {α β : Type} {f : α → β} {zs ys : List β} (p : zs.Perm ys) : ∀ {l : List α}, ys = l.map f → ∃ l' : List α, zs = l'.map f ∧ l'.Perm l := by
  induction p with
  | nil =>
    intro l e
    cases l with
    | nil => exact ⟨[], rfl, .refl _⟩
    | cons a l => cases e
  | cons x _ ih =>
    intro l e
    cases l with
    | nil => cases e
    | cons a l =>
      rw [List.map_cons] at e
      injection e with e1 e2
      obtain ⟨l', h1, h2⟩ := ih e2
      exact ⟨a :: l', by rw [List.map_cons, h1, e1], h2.cons a⟩
  | swap x y t =>
    intro l e
    match l, e with
    | a :: b :: l, e =>
      rw [List.map_cons, List.map_cons] at e
      injection e with e1 e
      injection e with e2 e3
      exact ⟨b :: a :: l, by rw [List.map_cons, List.map_cons, e1, e2, e3], .swap a b l⟩
  | trans _ _ ih1 ih2 =>
    intro l e
    obtain ⟨l2, e2, p2⟩ := ih2 e
    obtain ⟨l1, e1, p1⟩ := ih1 e2
    exact ⟨l1, e1, p1.trans p2⟩
def graph (E : List Ent) : Gr := E.map fun x => (x.1, x.2.2)
theorem eqv_cell (a b : Cell) : PyData.eqv (encC a) (encC b) = decide (a = b) := by
  obtain ⟨x, y⟩ := a
  obtain ⟨u, v⟩ := b
  simp only [encC, PyData.eqv, PyData.eqvAll, Bool.and_true]
  by_cases h1 : x = u <;> by_cases h2 : y = v <;> simp [h1, h2]
theorem any_cell (a : Cell) (r : List Cell) : (r.map encC).any (fun z => PyData.eqv z (encC a)) = decide (a ∈ r) := by
  rw [List.any_map]
  induction r with
  | nil => simp
  | cons x r ih =>
    rw [List.any_cons, ih]
    show (PyData.eqv (encC x) (encC a) || _) = _
    rw [eqv_cell]
    by_cases h : x = a
    · subst h
      simp
    · have h2 : a ≠ x := fun z => h z.symm
      simp [h, h2]
theorem lay_cell (c : Cell) : (encC c).canLay0 = true := by simp [encC, PyData.canLay0, PyData.canLayAll0]
theorem lay_cells : ∀ r : List Cell, PyData.canLayAll0 (r.map encC) = true
  | [] => rfl
  | c :: r => by
    show ((encC c).canLay0 && PyData.canLayAll0 (r.map encC)) = true
    rw [lay_cells r, lay_cell]
    rfl
theorem shaped_cell (c : Cell) : SeqAt.shaped (encC c) = true := by
  unfold SeqAt.shaped
  rw [lay_cell, Bool.true_and]
  exact decide_eq_true (by show 1 ≤ 64; decide)
theorem shaped_cells (r : List Cell) : SeqAt.shaped (.list (r.map encC)) = true := by
  unfold SeqAt.shaped
  rw [Bool.and_eq_true]
  refine ⟨lay_cells r, decide_eq_true ?_⟩
  show PyData.depthAll _ + 1 ≤ 64
  have : PyData.depthAll (r.map encC) ≤ 1 := depthAll_le fun d hd => by
    obtain ⟨x, _, rfl⟩ := List.mem_map.mp hd
    exact Nat.le_refl _
  omega
theorem CAll.set {H : Hp} {b : Addr} {x : Cell} (hb : CellAt H b x) : ∀ {vs : List V} {cs : List Cell} {j : Nat}, CAll H vs cs → CAll H (vs.set j (.ref b)) (cs.set j x)
  | _, _, _, .nil => .nil
  | _, _, 0, .cons _ t => .cons hb t
  | _, _, j + 1, .cons h t => .cons h (CAll.set hb t)
section
variable {P : Program} {w : World} {K : PySem.W.Frag} {mg : Str → Option Value} {base : Heap}
/-- where a cell stands in a list of cells -/
theorem index_cell {H : Hp} {l b : Addr} {us : List V} {r : List Cell} {c : Cell} {Q : VK} (hl : H l = some (.lst us)) (hu : CAll H us r) (hb : CellAt H b c) (hc : c ∈ r) (q : ∀ j, r[j]? = some c → Q (.int (j : Nat)) H) : rIndexD K (.ref l) [.ref b] H Q := by
  obtain ⟨j, hj, hm⟩ := first_ix hc
  refine ⟨l, .ref b, encC c, r.map encC, j, encC c, rfl, rfl, .lst (SqL.of hl) hu.td.dp, (td_cell hb).dp, shaped_cells r, shaped_cell c, by rw [List.getElem?_map, hj]; rfl, by rw [eqv_cell]; exact decide_eq_true rfl, fun m z' hlt hz' => ?_, q j hj⟩
  rw [List.getElem?_map] at hz'
  cases e : r[m]? with
  | none => rw [e] at hz'; cases hz'
  | some y =>
    rw [e] at hz'
    cases hz'
    rw [eqv_cell]
    exact decide_eq_false fun z => hm m hlt (by rw [e, z])
theorem turn_dget {t h : Addr} {H : Hp} {tn b : Addr} {E : List Ent} (T : TurnAt t h H tn E) {x : Ent} (hx : x ∈ E) (hb : CellAt H b x.1) : DGet H tn (.ref b) (some (.ref x.2.1)) := by
  have z := DGet.t (k := keyC x.1) T.dict hb
  rw [turn_get T.nd hx] at z
  exact z
def spSmooth : Sp := fun vs H Q _ => ∃ (t h tn : Addr) (laps : Nat) (E : List Ent), vs = [.ref t, .ref tn, .int laps] ∧ Tin H t h ∧ TurnAt t h H tn E ∧ GOk (graph E) ∧ 2 ≤ E.length ∧ E.length ≤ 40 ∧
  ∀ (E' : List Ent) H', Tin H' t h → TurnAt t h H' tn E' → GOk (graph E') → 2 ≤ E'.length → E'.length ≤ E.length → Tm H H' → Q .non H'
theorem ok_law_smooth (T : Txt K mg) : FnOk P w K mg base CX0 3 T.d_law_smooth.f T.d_law_smooth.fd ["tin", "turn", "laps"] spSmooth := by
  refine T.d_law_smooth.F.ok sc_law_smooth (fun vs H Q E h => ?_) (fun cdv A outer s H vs Q E hr h => ?_)
  · obtain ⟨_, _, _, _, _, rfl, _⟩ := h
    rfl
  · obtain ⟨t, hh, tn, laps, E, rfl, hT, hE, hG, h2, h40, q⟩ := h
    refine ⟨_, (pss_one (ps_for PassesOwn.never rfl (pi_list (pe_slice sl_list (pe_call (ok_law_strewn T) (hr.mono (by decide)) (by rfl) T.d_law_strewn.m T.d_law_strewn.F.kp T.d_law_strewn.b .nil pass0 (pa_cons (pv 0) (pa_cons (pe_callB (HT.cr_sortT rfl hr.units) (by rfl) T.n_sorted (by decide +kernel) (pa_cons (pv 1) pa_nil)) pa_nil))) po_none (po_some (pv 2)))) (pg_name (i := 3) sc_law_smooth.nd rfl (Or.inl rfl))
    (pss_one (ps_mid (ps_if (pt_mid (PW.pt (pw_and (pt_cmpR op_gt (pe_callB call_len_dT (by rfl) T.n_len (by decide +kernel) (pa_cons (pv 1) pa_nil)) pe_int (nomark _)) (pw_and1 (pt_cmpR op_eq (pe_callB call_len (by rfl) T.n_len (by decide +kernel) (pa_cons (pe_dget (hu_of hr) (pv 1) (pv 3) (fun _ _ => rfl)) pa_nil)) pe_int (nomark _))))))
    (pss_cons (ps_asg (pe_dget (hu_of hr) (pv 1) (pv 3) (fun _ _ => rfl)) (pg_lst rfl (pgs_cons (pg_name (i := 4) sc_law_smooth.nd rfl (Or.inl rfl)) (pgs_cons (pg_name (i := 5) sc_law_smooth.nd rfl (Or.inl rfl)) pgs_nil))))
  (pss_one (ps_mid (ps_if (pt_cmpR (op_notInD (u65 hr)) (pv 5) (pe_dget (hu_of hr) (pv 1) (pv 4) (fun _ _ => rfl)) (by rfl))
    (pss_cons (ps_asg (pv 5) (pg_sub (pe_dget (hu_of hr) (pv 1) (pv 4) (fun _ _ => rfl)) (pe_bm PySem.F.plainAttrs_list PySem.F.slot_list_index PySem.F.type_list_index (mt_indexD (u65 hr)) (pe_dget (hu_of hr) (pv 1) (pv 4) (fun _ _ => rfl)) (pa_cons (pv 3) pa_nil)) set_list))
  (pss_cons (ps_asg (pv 4) (pg_sub (pe_dget (hu_of hr) (pv 1) (pv 5) (fun _ _ => rfl)) (pe_bm PySem.F.plainAttrs_list PySem.F.slot_list_index PySem.F.type_list_index (mt_indexD (u65 hr)) (pe_dget (hu_of hr) (pv 1) (pv 5) (fun _ _ => rfl)) (pa_cons (pv 3) pa_nil)) set_list))
  (pss_one (ps_expr (pe_bm PySem.F.plainAttrs_dict PySem.F.slot_dict_pop PySem.F.type_dict_pop (HT.mt_pop1T (hu_of hr)) (pv 1) (pa_cons (pv 3) pa_nil))))))
    pss_nil))))
    pss_nil))))), ?_⟩
    refine ⟨_, rfl, _, rfl, rSortT.mk tn (E.map fun x => (x.1, V.ref x.2.1)) rfl (by rw [List.map_map]; exact hE.dict) fun p bs hp0 pm hcells => ?_⟩
    rw [List.map_map] at pm
    have sp := same_new (o := .lst (bs.map fun b => V.ref b.1)) hp0
    have bl : bs.length = E.length := by
      have := pm.length_eq
      rw [List.length_map, List.length_map] at this
      exact this
    refine ⟨t, hh, p, _, rfl, hT.same sp, SqL.of upd_same, by rw [List.length_map]; omega, fun p1 H1 zs zperm r1 T1 hp10 hp11 => ?_⟩
    obtain ⟨bs', rfl, bperm⟩ := perm_of_map zperm rfl
    have tm1 := (Tm.of sp).trans (r1.tm (hT.same sp))
    have hE1 := (hE.same sp).rst (hT.same sp) r1
    refine ⟨_, rfl, _, rfl, p1, _, rfl, SqL.of hp11, fun p2 hp2 => ?_⟩
    have s2 := same_new (o := .lst (cutV (bs'.map fun b => V.ref b.1) none (some (laps : Int)))) hp2
    have hcut : cutV (bs'.map fun b => V.ref b.1) none (some (laps : Int)) = (bs'.take laps).map fun b => V.ref b.1 := by rw [cut_pre, List.map_take]
    have n2 := T1.ne hp2
    have cellsAt : ∀ b ∈ bs'.take laps, CellAt H b.1 b.2 := fun b hb => hcells b (bperm.mem_iff.mp (List.mem_of_mem_take hb))
    have cnd : ((bs'.take laps).map (·.2)).Nodup := by
      have h1 : (bs'.map (·.2)).Nodup := ((bperm.map (·.2)).trans pm).nodup_iff.mpr (by
        have := hE.nd
        exact this)
      rw [List.map_take]
      exact h1.sublist (List.take_sublist _ _)
    refine ⟨p2, rfl, ⟨_, SqL.of upd_same⟩, ?_⟩
    rw [hcut] at s2 ⊢
    refine for_list (K := K) (a := p2) (xs := (bs'.take laps).map fun b => V.ref b.1) (fun i σ' H' => ∃ x3 x4 x5 E', σ' = [some (.ref t), some (.ref tn), some (.int laps), x3, x4, x5] ∧ Tin H' t hh ∧ TurnAt t hh H' tn E' ∧ GOk (graph E') ∧ 2 ≤ E'.length ∧ E'.length ≤ E.length ∧ H' p2 = some (.lst ((bs'.take laps).map fun b => V.ref b.1)) ∧ (∀ x ∈ E', x.2.1 ≠ p2) ∧ Tm H H' ∧ ∀ j b, i ≤ j → (bs'.take laps)[j]? = some b → b.2 ∈ E'.map (·.1)) ?_ ?_ ?_ ?_
    · refine ⟨_, _, _, E, rfl, T1.same s2, hE1.same s2, hG, h2, Nat.le_refl _, upd_same, fun x hx => ?_, tm1.trans (Tm.of s2), fun j b _ hb => ?_⟩
      · obtain ⟨us, hu, _⟩ := hE1.rows x hx
        exact ne_of_none hu hp2
      · have : b.2 ∈ bs'.map (·.2) := List.mem_map.mpr ⟨b, List.mem_of_mem_take (List.mem_of_getElem? hb), rfl⟩
        exact ((bperm.map (·.2)).trans pm).mem_iff.mp this
    · rintro i σ' H' _ ⟨_, _, _, _, _, _, _, _, _, _, z, _⟩
      exact SqL.of z
    · rintro i x σ' H' hi ⟨x3, x4, x5, E', rfl, T2, hE2, hG2, hl2, hle, hp22, hne2, tm2, hin⟩
      rw [List.getElem?_map] at hi
      obtain ⟨b, hb, rfl⟩ : ∃ b, (bs'.take laps)[i]? = some b ∧ x = V.ref b.1 := by
        cases e : (bs'.take laps)[i]? with
        | none => rw [e] at hi; cases hi
        | some b => rw [e] at hi; exact ⟨b, rfl, (Option.some.inj hi).symm⟩
      have hcb := (cellsAt b (List.mem_of_getElem? hb)).mono tm2
      obtain ⟨⟨c, l, r⟩, hx, hxc⟩ := List.mem_map.mp (hin i b (Nat.le_refl _) hb)
      dsimp only at hxc
      rw [← hxc] at hcb
      have hin' : ∀ j b', i + 1 ≤ j → (bs'.take laps)[j]? = some b' → b'.2 ∈ E'.map (·.1) := fun j b' hj hb' => hin j b' (by omega) hb'
      obtain ⟨us, hus, hcu⟩ := hE2.rows _ hx
      have again : ∀ x4 x5 : Option V, (fun (σ4 : L2.St) (H4 : Hp) => ∃ x3 x4 x5 E'', σ4 = [some (.ref t), some (.ref tn), some (.int laps), x3, x4, x5] ∧ Tin H4 t hh ∧ TurnAt t hh H4 tn E'' ∧ GOk (graph E'') ∧ 2 ≤ E''.length ∧ E''.length ≤ E.length ∧ H4 p2 = some (.lst ((bs'.take laps).map fun b => V.ref b.1)) ∧ (∀ x ∈ E'', x.2.1 ≠ p2) ∧ Tm H H4 ∧ ∀ j b, i + 1 ≤ j → (bs'.take laps)[j]? = some b → b.2 ∈ E''.map (·.1)) [some (.ref t), some (.ref tn), some (.int laps), some (.ref b.1), x4, x5] H' := fun x4 x5 => ⟨_, x4, x5, E', rfl, T2, hE2, hG2, hl2, hle, hp22, hne2, tm2, hin'⟩
      refine ⟨fun σ4 H4 => ∃ x3 x4 x5 E'', σ4 = [some (.ref t), some (.ref tn), some (.int laps), x3, x4, x5] ∧ Tin H4 t hh ∧ TurnAt t hh H4 tn E'' ∧ GOk (graph E'') ∧ 2 ≤ E''.length ∧ E''.length ≤ E.length ∧ H4 p2 = some (.lst ((bs'.take laps).map fun b => V.ref b.1)) ∧ (∀ x ∈ E'', x.2.1 ≠ p2) ∧ Tm H H4 ∧ ∀ j b, i + 1 ≤ j → (bs'.take laps)[j]? = some b → b.2 ∈ E''.map (·.1), ?_, fun _ _ z => z⟩
      refine ⟨fun b0 H2 => H2 = H' ∧ (b0 = true → 2 < E'.length ∧ r.length = 2), ?_, ?_⟩
      · refine ⟨_, rfl, tn, _, rfl, hE2.dict, _, _, rfl, rfl, _, rfl, ?_⟩
        refine ite2 (fun h => ?_) (fun _ => ⟨rfl, fun z => nomatch z⟩)
        have h3 : 2 < E'.length := by
          have := of_decide_eq_true h
          rw [List.length_map] at this
          omega
        refine ⟨_, rfl, _, rfl, tn, .ref l, rfl, turn_dget hE2 hx hcb, _, _, rfl, .inl ⟨us, SqL.of hus, rfl⟩, rfl, _, rfl, rfl, fun z => ⟨h3, ?_⟩⟩
        have := of_decide_eq_true z
        have e : ((us.length : Nat) : Int) = 2 := by
          injection this
        rw [← hcu.len]
        omega
      · rintro b0 H2 ⟨rfl, hb0⟩
        refine ite2 (fun hbt => ?_) (fun _ => again _ _)
        obtain ⟨h3, hr2⟩ := hb0 hbt
        obtain ⟨a1, a2, rfl⟩ : ∃ a1 a2, r = [a1, a2] := by
          match r, hr2 with
          | [a1, a2], _ => exact ⟨a1, a2, rfl⟩
        obtain ⟨b1, b2, rfl, hb1, hb2⟩ : ∃ b1 b2, us = [.ref b1, .ref b2] ∧ CellAt H2 b1 a1 ∧ CellAt H2 b2 a2 := by
          cases hcu with
          | cons h1 t1 =>
            cases t1 with
            | cons h2' t2 =>
              cases t2
              exact ⟨_, _, rfl, h1, h2'⟩
        have hgc : (c, [a1, a2]) ∈ graph E' := List.mem_map.mpr ⟨_, hx, rfl⟩
        obtain ⟨g1, hg1, e1, hc1⟩ := hG2.sym _ hgc a1 (by simp)
        obtain ⟨g2, hg2, e2, hc2⟩ := hG2.sym _ hgc a2 (by simp)
        obtain ⟨⟨a1', l1, r1'⟩, hx1, rfl⟩ := List.mem_map.mp hg1
        obtain ⟨⟨a2', l2, r2'⟩, hx2, rfl⟩ := List.mem_map.mp hg2
        dsimp only at e1 e2 hc1 hc2
        subst e1 e2
        obtain ⟨us1, hus1, hcu1⟩ := hE2.rows _ hx1
        obtain ⟨us2, hus2, hcu2⟩ := hE2.rows _ hx2
        refine ⟨_, rfl, _, rfl, tn, .ref l, rfl, turn_dget hE2 hx hcb, l, _, rfl, SqL.of hus, rfl, _, _, rfl, _, _, rfl, rfl, ?_⟩
        refine ⟨fun σ4 H4 => ∃ x3 x4 x5 E'', σ4 = [some (.ref t), some (.ref tn), some (.int laps), x3, x4, x5] ∧ Tin H4 t hh ∧ TurnAt t hh H4 tn E'' ∧ GOk (graph E'') ∧ 2 ≤ E''.length ∧ E''.length ≤ E.length ∧ H4 p2 = some (.lst ((bs'.take laps).map fun b => V.ref b.1)) ∧ (∀ x ∈ E'', x.2.1 ≠ p2) ∧ Tm H H4 ∧ ∀ j b, i + 1 ≤ j → (bs'.take laps)[j]? = some b → b.2 ∈ E''.map (·.1), ?_, fun _ _ z => z⟩
        refine ⟨_, rfl, _, rfl, _, rfl, tn, .ref l1, rfl, turn_dget hE2 hx1 hb1, encC a2', r1'.map encC, (td_cell hb2).dp, .lst (SqL.of hus1) hcu1.td.dp, shaped_cell _, shaped_cells _, _, rfl, ?_⟩
        rw [any_cell]
        by_cases hno : a2' ∈ r1'
        · rw [decide_eq_true hno]
          exact iteF (again _ _)
        rw [decide_eq_false hno]
        refine iteT ?_
        have hGn : GOk (smoothG (graph E') c a1' a2') := hG2.smooth hgc fun g hg e => by
          rw [same_key hG2.nd hg (List.mem_map.mpr ⟨_, hx1, rfl⟩) e]
          exact hno
        have hne : a1' ≠ a2' := by
          have := hG2.rnd _ hgc
          simpa using this
        have hcne : c ≠ a1' ∧ c ≠ a2' := by
          have := hG2.self _ hgc
          simpa [not_or] using this
        have key2 : ∀ {x y : Ent}, x ∈ E' → y ∈ E' → x.2.1 = y.2.1 → x = y := fun {x y} hx hy e => by
          obtain ⟨i, hi⟩ := List.mem_iff_getElem?.mp hx
          obtain ⟨j, hj⟩ := List.mem_iff_getElem?.mp hy
          have : i = j := nd_ix (l := E'.map (·.2.1)) hE2.apart (by rw [List.getElem?_map, hi]; rfl) (by rw [List.getElem?_map, hj]; exact congrArg some e.symm)
          subst this
          rw [hi] at hj
          exact Option.some.inj hj
        have key1 : ∀ {x y : Ent}, x ∈ E' → y ∈ E' → x.1 = y.1 → x = y := fun {x y} hx hy e => by
          obtain ⟨i, hi⟩ := List.mem_iff_getElem?.mp hx
          obtain ⟨j, hj⟩ := List.mem_iff_getElem?.mp hy
          have : i = j := nd_ix (l := E'.map (·.1)) hE2.nd (by rw [List.getElem?_map, hi]; rfl) (by rw [List.getElem?_map, hj]; exact congrArg some e.symm)
          subst this
          rw [hi] at hj
          exact Option.some.inj hj
        have nl12 : l1 ≠ l2 := fun e => hne (congrArg (·.1) (key2 hx1 hx2 e))
        have nlt1 : l1 ≠ tn := ne_of hus1 hE2.dict (fun z => nomatch z)
        have nlt2 : l2 ≠ tn := ne_of hus2 hE2.dict (fun z => nomatch z)
        refine ⟨_, rfl, _, rfl, _, rfl, tn, .ref l1, rfl, turn_dget hE2 hx1 hb1, ?_⟩
        refine ⟨_, rfl, _, rfl, tn, .ref l1, rfl, turn_dget hE2 hx1 hb1, .inl ⟨rfl, _, SqL.of hus1⟩, _, rfl, ?_⟩
        dsimp only [tNil]
        refine index_cell hus1 hcu1 hcb hc1 fun j1 hj1 => ?_
        have hj1l : j1 < us1.length := by
          rw [hcu1.len]
          exact (List.getElem?_eq_some_iff.mp hj1).1
        refine ⟨l1, us1, _, j1, rfl, rfl, hus1, by unfold ixN; rw [if_pos (by omega), if_pos (by omega)]; simp, ?_⟩
        have tmA := Tm.lst (o := .lst (us1.set j1 (V.ref b2))) hus1
        have hdA : (upd H2 l1 (.lst (us1.set j1 (.ref b2)))) tn = some (.dT (E'.map fun x => (keyC x.1, V.ref x.2.1))) := by rw [upd_ne nlt1.symm]; exact hE2.dict
        have hu2A : (upd H2 l1 (.lst (us1.set j1 (.ref b2)))) l2 = some (.lst us2) := by rw [upd_ne nl12.symm]; exact hus2
        have dgA : DGet (upd H2 l1 (.lst (us1.set j1 (.ref b2)))) tn (.ref b2) (some (.ref l2)) := by
          have z := DGet.t (k := keyC a2') hdA (hb2.mono tmA)
          rw [turn_get hE2.nd hx2] at z
          exact z
        refine ⟨_, rfl, _, rfl, _, rfl, tn, .ref l2, rfl, dgA, ?_⟩
        refine ⟨_, rfl, _, rfl, tn, .ref l2, rfl, dgA, .inl ⟨rfl, _, SqL.of hu2A⟩, _, rfl, ?_⟩
        dsimp only [tNil]
        refine index_cell hu2A (hcu2.mono tmA) (hcb.mono tmA) hc2 fun j2 hj2 => ?_
        have hj2l : j2 < us2.length := by
          rw [hcu2.len]
          exact (List.getElem?_eq_some_iff.mp hj2).1
        refine ⟨l2, us2, _, j2, rfl, rfl, hu2A, by unfold ixN; rw [if_pos (by omega), if_pos (by omega)]; simp, ?_⟩
        have tmB := tmA.trans (Tm.lst (o := .lst (us2.set j2 (V.ref b1))) hu2A)
        have hdB : (upd (upd H2 l1 (.lst (us1.set j1 (.ref b2)))) l2 (.lst (us2.set j2 (.ref b1)))) tn = some (.dT (E'.map fun x => (keyC x.1, V.ref x.2.1))) := by rw [upd_ne nlt2.symm]; exact hdA
        refine ⟨_, rfl, .inr (.inr (.inl ⟨rfl, .inr ⟨_, hdB⟩⟩)), _, rfl, tn, _, keyC c, b.1, .ref l, rfl, rfl, hdB, hcb.mono tmB, turn_get hE2.nd hx, ?_⟩
        have hdrop : dropK (E'.map fun x => (keyC x.1, V.ref x.2.1)) (keyC c) = ((E'.filter fun x => decide (x.1 ≠ c)).map fun (x : Ent) => ((x.1, x.2.1, newRow c a1' a2' (x.1, x.2.2)) : Ent)).map fun (x : Ent) => (keyC x.1, V.ref x.2.1) := by
          unfold dropK
          rw [List.map_map, List.filter_map]
          show _ = List.map (fun (x : Ent) => (keyC x.1, V.ref x.2.1)) _
          congr 1
          refine List.filter_congr fun x _ => ?_
          show decide (keyC x.1 ≠ keyC c) = decide (x.1 ≠ c)
          by_cases e : x.1 = c
          · rw [e]
            simp
          · exact decide_eq_decide.mpr ⟨fun _ => e, fun _ z => e (keyC_inj z)⟩
        rw [hdrop]
        have tmC := tmB.trans (Tm.dT (o := .dT (((E'.filter fun x => decide (x.1 ≠ c)).map fun (x : Ent) => ((x.1, x.2.1, newRow c a1' a2' (x.1, x.2.2)) : Ent)).map fun (x : Ent) => (keyC x.1, V.ref x.2.1))) hdB)
        have memE : ∀ y ∈ (E'.filter fun x => decide (x.1 ≠ c)).map fun (x : Ent) => ((x.1, x.2.1, newRow c a1' a2' (x.1, x.2.2)) : Ent), ∃ x ∈ E', x.1 ≠ c ∧ y = (x.1, x.2.1, newRow c a1' a2' (x.1, x.2.2)) := fun y hy => by
          obtain ⟨x, hx, rfl⟩ := List.mem_map.mp hy
          obtain ⟨h1, h2⟩ := List.mem_filter.mp hx
          exact ⟨x, h1, of_decide_eq_true h2, rfl⟩
        have keysIn : ∀ d, d ∈ E'.map (·.1) → d ≠ c → d ∈ ((E'.filter fun x => decide (x.1 ≠ c)).map fun (x : Ent) => ((x.1, x.2.1, newRow c a1' a2' (x.1, x.2.2)) : Ent)).map (·.1) := fun d hd hdc => by
          obtain ⟨x, hx, rfl⟩ := List.mem_map.mp hd
          exact List.mem_map.mpr ⟨_, List.mem_map.mpr ⟨x, List.mem_filter.mpr ⟨hx, decide_eq_true hdc⟩, rfl⟩, rfl⟩
        refine ⟨_, _, _, (E'.filter fun x => decide (x.1 ≠ c)).map fun (x : Ent) => ((x.1, x.2.1, newRow c a1' a2' (x.1, x.2.2)) : Ent), rfl, ?_, ⟨upd_same, fun y hy => ?_, ?_, ?_, fun y hy => ?_⟩, ?_, ?_, ?_, ?_, fun y hy => ?_, tm2.trans tmC, fun j b' hj hb' => ?_⟩
        · have f1 := hE2.far _ hx1
          have f2 := hE2.far _ hx2
          obtain ⟨cs, m, k1, k2, k3⟩ := id T2
          exact ((T2.put f1.1.symm f1.2.symm).put f2.1.symm f2.2.symm).put (ne_of k1 hE2.dict (fun z => nomatch z)) (ne_of k2 hE2.dict (fun z => nomatch z))
        · obtain ⟨x, hx', hxc', rfl⟩ := memE y hy
          dsimp only
          by_cases q1 : x.1 = a1'
          · have ex := key1 hx' hx1 q1
            subst ex
            refine ⟨us1.set j1 (.ref b2), ?_, ?_⟩
            · rw [upd_ne nlt1, upd_ne nl12, upd_same]
            · unfold newRow
              rw [if_pos rfl, ← rep_set (hG2.rnd _ hg1) hj1]
              exact (CAll.set hb2 hcu1).mono tmC
          · by_cases q2 : x.1 = a2'
            · have ex := key1 hx' hx2 q2
              subst ex
              refine ⟨us2.set j2 (.ref b1), ?_, ?_⟩
              · rw [upd_ne nlt2, upd_same]
              · unfold newRow
                rw [if_neg hne.symm, if_pos rfl, ← rep_set (hG2.rnd _ hg2) hj2]
                exact (CAll.set hb1 hcu2).mono tmC
            · obtain ⟨us', hu', hc'⟩ := hE2.rows x hx'
              refine ⟨us', ?_, ?_⟩
              · rw [upd_ne (ne_of hu' hE2.dict (fun z => nomatch z)), upd_ne (fun e => q2 (congrArg (·.1) (key2 hx' hx2 e))), upd_ne (fun e => q1 (congrArg (·.1) (key2 hx' hx1 e)))]
                exact hu'
              · unfold newRow
                rw [if_neg q1, if_neg q2]
                exact hc'.mono tmC
        · rw [List.map_map]
          exact hE2.apart.sublist (List.Sublist.map (fun x : Ent => x.2.1) List.filter_sublist)
        · rw [List.map_map]
          exact hE2.nd.sublist (List.Sublist.map (fun x : Ent => x.1) List.filter_sublist)
        · obtain ⟨x, hx', _, rfl⟩ := memE y hy
          exact hE2.far x hx'
        · have eg : graph ((E'.filter fun x => decide (x.1 ≠ c)).map fun (x : Ent) => ((x.1, x.2.1, newRow c a1' a2' (x.1, x.2.2)) : Ent)) = smoothG (graph E') c a1' a2' := by
            unfold graph smoothG
            rw [List.filter_map, List.map_map, List.map_map]
            rfl
          rw [eg]
          exact hGn
        · have hl := nodup_le (l := E'.map (·.1)) (m := c :: ((E'.filter fun x => decide (x.1 ≠ c)).map fun (x : Ent) => ((x.1, x.2.1, newRow c a1' a2' (x.1, x.2.2)) : Ent)).map (·.1)) hE2.nd fun d hd => by
            by_cases e : d = c
            · rw [e]
              exact List.mem_cons_self ..
            · exact List.mem_cons_of_mem _ (keysIn d hd e)
          rw [List.length_map, List.length_cons, List.length_map] at hl
          omega
        · rw [List.length_map]
          exact Nat.le_trans (List.length_filter_le _ _) hle
        · rw [upd_ne (ne_of hp22 hE2.dict (fun z => nomatch z)), upd_ne (hne2 _ hx2).symm, upd_ne (hne2 _ hx1).symm]
          exact hp22
        · obtain ⟨x, hx', _, rfl⟩ := memE y hy
          exact hne2 x hx'
        · refine keysIn _ (hin' j b' hj hb') fun e => ?_
          have : i = j := nd_ix cnd (by rw [List.getElem?_map, hb]; rfl) (by rw [List.getElem?_map, hb']; exact congrArg some (e.trans hxc))
          omega
    · rintro σ' H' ⟨x3, x4, x5, E', rfl, T2, hE2, hG2, hl2, hle, _, _, tm2, _⟩
      exact q E' H' T2 hE2 hG2 hl2 hle tm2
end
end K2
namespace K2
open PySem PyProof.Rows L2 HD HT
section
variable {P : Program} {w : World} {K : PySem.W.Frag} {mg : Str → Option Value} {base : Heap}
def spBegun (K : PySem.W.Frag) : Sp := fun vs H Q _ => ∃ (l : Addr) (ws : List Str), vs = [.ref l] ∧ H l = some (.lst (ws.map V.str)) ∧ ws ≠ [] ∧ ws.length ≤ 1000 ∧
  ∀ (p : Addr) (k : Nat) H', k < ws.length → Same H H' → H p = none → FT H' p ((ws.drop k ++ ws.take k).map V.str) → Q (.ref p) H'
theorem ok_law_begun (T : Txt K mg) : FnOk P w K mg base CX0 1 T.d_law_begun.f T.d_law_begun.fd ["ways"] (spBegun K) := by
  refine T.d_law_begun.F.ok sc_law_begun (fun vs H Q E h => ?_) (fun cdv A outer s H vs Q E hr h => ?_)
  · obtain ⟨_, _, rfl, _⟩ := h
    rfl
  · obtain ⟨l, ws, rfl, hl0, hne, hlen, q⟩ := h
    have hl : SqL K H l (ws.map V.str) := SqL.of hl0
    refine ⟨_, (pss_cons (ps_set (i := 1) sc_law_begun.nd rfl (Or.inl rfl) (pe_bm PySem.F.plainAttrs_list PySem.F.slot_list_index PySem.F.type_list_index mt_index (pv 0) (pa_cons (pe_callB (cr_minD rfl hr.units) (by rfl) T.n_min (by decide +kernel) (pa_cons (pv 0) pa_nil)) pa_nil)))
  (pss_one (ps_ret (pe_callTy call_tuple_ofF (by rfl) T.n_tuple (by decide +kernel) (pa_cons (pe_op op_cat (pe_slice sl_list (pv 0) (po_some (pv 1)) po_none) (pe_slice sl_list (pv 0) po_none (po_some (pv 1)))) pa_nil))))), ?_⟩
    obtain ⟨w0, wr, rfl⟩ : ∃ w0 wr, ws = w0 :: wr := by
      cases ws with
      | nil => exact absurd rfl hne
      | cons a r => exact ⟨a, r, rfl⟩
    have hb1 : ((V.str w0, PyData.str w0) :: wr.map fun x => (V.str x, PyData.str x)).map (·.1) = (w0 :: wr).map V.str := by
      rw [List.map_cons, List.map_map]
      rfl
    have hb2 : ((V.str w0, PyData.str w0) :: wr.map fun x => (V.str x, PyData.str x)).map (·.2) = (w0 :: wr).map PyData.str := by
      rw [List.map_cons, List.map_map]
      rfl
    have hbm : ∀ x ∈ (V.str w0, PyData.str w0) :: wr.map fun x => (V.str x, PyData.str x), ∃ u ∈ w0 :: wr, x = (V.str u, PyData.str u) := fun x hx => by
      rcases List.mem_cons.mp hx with rfl | hx
      · exact ⟨w0, List.mem_cons_self .., rfl⟩
      · obtain ⟨y, hy, rfl⟩ := List.mem_map.mp hx
        exact ⟨y, List.mem_cons_of_mem _ hy, rfl⟩
    refine ⟨_, rfl, .inl ⟨rfl, _, hl⟩, _, rfl, l, (V.str w0, PyData.str w0), wr.map fun x => (V.str x, PyData.str x), rfl, .inl (by rw [hb1]; exact hl), ?_, ?_, ?_, ?_⟩
    · intro x hx
      obtain ⟨u, _, rfl⟩ := hbm x hx
      exact Td.dp (.str u)
    · rw [hb2]
      refine ⟨fun x hx y hy => ?_, fun x hx e => ?_⟩
      · obtain ⟨u, _, rfl⟩ := List.mem_map.mp hx
        obtain ⟨u', _, rfl⟩ := List.mem_map.mp hy
        rfl
      · obtain ⟨u, _, rfl⟩ := List.mem_map.mp hx
        cases e
    · intro x hx
      obtain ⟨u, _, rfl⟩ := hbm x hx
      exact Nat.zero_le _
    · intro x hx _
      obtain ⟨u, hu, rfl⟩ := hbm x hx
      obtain ⟨k, hk, hkm⟩ := first_ix hu
      have hkl := (List.getElem?_eq_some_iff.mp hk).1
      generalize w0 :: wr = ws at *
      refine ⟨l, ws.map V.str, .str u, k, .str u, rfl, rfl, hl, rfl, flat_strs, by rw [List.getElem?_map, hk]; rfl, by show (u == u) = true; simp, fun m z' hm hz' => ?_, ?_⟩
      · rw [List.getElem?_map] at hz'
        cases hw : ws[m]? with
        | none => rw [hw] at hz'; cases hz'
        | some v =>
          rw [hw] at hz'
          cases hz'
          have : v ≠ u := fun e => hkm m hm (by rw [hw, e])
          show (v == u) = false
          simpa using this
      refine ⟨_, rfl, _, rfl, _, rfl, l, ws.map V.str, rfl, hl, fun q1 hq1 => ?_⟩
      have sq1 := same_new (o := .lst (cutV (ws.map V.str) (some (k : Int)) none)) hq1
      refine ⟨_, rfl, _, rfl, _, rfl, l, ws.map V.str, rfl, SqL.of (sq1 _ _ hl0), fun q2 hq2 => ?_⟩
      have sq2 := same_new (o := .lst (cutV (ws.map V.str) none (some (k : Int)))) hq2
      refine ⟨q1, q2, _, _, rfl, rfl, sq2 _ _ upd_same, upd_same, ?_, fun q3 hq3 => ?_⟩
      · rw [cut_post _ _ (by rw [List.length_map]; omega), cut_pre, List.length_drop, List.length_take, List.length_map]
        exact Nat.le_trans (by omega : _ ≤ 1000) (by decide)
      have sq3 := same_new (o := .lst (cutV (ws.map V.str) (some (k : Int)) none ++ cutV (ws.map V.str) none (some (k : Int)))) hq3
      have e3 : cutV (ws.map V.str) (some (k : Int)) none ++ cutV (ws.map V.str) none (some (k : Int)) = (ws.drop k ++ ws.take k).map V.str := by rw [cut_post _ _ (by rw [List.length_map]; omega), cut_pre, List.map_append, List.map_drop, List.map_take]
      refine ⟨q3, _, rfl, SqL.of upd_same, fun tp o htp hoc hod => ?_⟩
      have sq4 := same_new (o := .frz o (.tup (cutV (ws.map V.str) (some (k : Int)) none ++ cutV (ws.map V.str) none (some (k : Int))))) htp
      refine q tp k _ hkl (sq1.trans (sq2.trans (sq3.trans sq4))) (sq1.free (sq2.free (sq3.free htp))) ⟨o, ?_, hoc, hod⟩
      rw [upd_same, e3]
end
end K2
namespace K2
open PySem PyProof.Rows L2 HD HT
/-! ### the cells named -/
theorem names_fn : ∀ (cs : List Cell) (ns : List Str), cs.Nodup → ns.length = cs.length → ∃ nm : Cell → Str, ns = cs.map nm
  | [], ns, _, h => ⟨fun _ => ⟨#[]⟩, by
    cases ns with
    | nil => rfl
    | cons a r => cases h⟩
  | c :: cs, [], _, h => by cases h
  | c :: cs, n :: ns, nd, h => by
    have nd' := List.nodup_cons.mp nd
    obtain ⟨nm, e⟩ := names_fn cs ns nd'.2 (by simpa using h)
    refine ⟨fun x => if x = c then n else nm x, ?_⟩
    rw [List.map_cons, if_pos rfl, e]
    congr 1
    refine List.map_congr_left fun x hx => ?_
    rw [if_neg (fun z : x = c => nd'.1 (z ▸ hx))]
theorem nm_val {nm : Cell → Str} {cs : List Cell} {c : Cell} : valV (cs.map fun c => (keyC c, V.str (nm c))) (keyC c) = if c ∈ cs then some (.str (nm c)) else none := by
  induction cs with
  | nil => simp [valV_nil]
  | cons x cs ih =>
    rw [List.map_cons]
    by_cases h : x = c
    · rw [valV_pos (by rw [h]), h]
      simp
    · rw [valV_neg (fun z => h (keyC_inj z)), ih]
      have h2 : c ≠ x := fun z => h z.symm
      simp [h2]
theorem map_inj_on {α β : Type} {f : α → β} : ∀ {l : List α}, (l.map f).Nodup → ∀ a ∈ l, ∀ b ∈ l, f a = f b → a = b
  | x :: l, nd, a, ha, b, hb, e => by
    have nd' := List.nodup_cons.mp (show (f x :: l.map f).Nodup from nd)
    rcases List.mem_cons.mp ha with h1 | h1
    · rcases List.mem_cons.mp hb with h2 | h2
      · rw [h1, h2]
      · exact absurd (show f x ∈ l.map f from List.mem_map.mpr ⟨b, h2, by rw [← e, h1]⟩) nd'.1
    · rcases List.mem_cons.mp hb with h2 | h2
      · exact absurd (show f x ∈ l.map f from List.mem_map.mpr ⟨a, h1, by rw [e, h2]⟩) nd'.1
      · exact map_inj_on nd'.2 a h1 b h2 e
/-- each place stands for a cell -/
def Stand (G : Gr) (nm : Cell → Str) (M : List Pl) : Prop := ∀ p ∈ M, ∃ g ∈ G, p.1 = nm g.1 ∧ p.2.Perm (g.2.map nm)
theorem darts_le {n : Nat} : ∀ {M : List Pl}, (∀ p ∈ M, p.2.length ≤ n) → (darts M).length ≤ n * M.length
  | [], _ => Nat.le_refl _
  | p :: M, h => by
    have h1 := h p (List.mem_cons_self ..)
    have h2 := darts_le (M := M) fun q hq => h q (List.mem_cons_of_mem _ hq)
    have e : darts (p :: M) = dartsOf p ++ darts M := rfl
    have e2 : (dartsOf p).length = p.2.length := by unfold dartsOf; rw [List.length_map, sortS_len]
    rw [e, List.length_append, e2, List.length_cons, Nat.mul_succ]
    omega
theorem MapOk.of {G : Gr} {nm : Cell → Str} {M : List Pl} {cs : List Cell} (hG : GOk G) (hcs : cs.Perm (G.map (·.1))) (hn : NamesOk (cs.map nm)) (hM : (M.map (·.1)).Perm (cs.map nm)) (hs : Stand G nm M) (h2 : 2 ≤ cs.length) (h40 : cs.length ≤ 40) : MapOk M := by
  have inj : ∀ a ∈ cs, ∀ b ∈ cs, nm a = nm b → a = b := map_inj_on hn.1
  have inC : ∀ g ∈ G, g.1 ∈ cs := fun g hg => hcs.mem_iff.mpr (List.mem_map.mpr ⟨g, hg, rfl⟩)
  have rowC : ∀ g ∈ G, ∀ b ∈ g.2, b ∈ cs := fun g hg b hb => by
    obtain ⟨q, hq, e, _⟩ := hG.sym g hg b hb
    exact e ▸ inC q hq
  have lM : M.length = cs.length := by
    have := hM.length_eq
    rw [List.length_map, List.length_map] at this
    exact this
  have inN : ∀ p ∈ M, p.1 ∈ cs.map nm := fun p hp => hM.mem_iff.mp (List.mem_map.mpr ⟨p, hp, rfl⟩)
  refine ⟨hM.nodup_iff.mpr hn.1, fun z => hn.2.1 (hM.mem_iff.mp z), fun p hp => ?_, fun p hp => ?_, fun p hp => ?_, fun p hp b hb => ?_, by omega, by omega, ?_, fun p hp => (hn.2.2 _ (inN p hp)).1, fun p hp => (hn.2.2 _ (inN p hp)).2⟩
  · obtain ⟨g, hg, _, pm⟩ := hs p hp
    exact pm.nodup_iff.mpr (nodup_map_on (fun a ha b hb e => inj a (rowC g hg a ha) b (rowC g hg b hb) e) (hG.rnd g hg))
  · obtain ⟨g, hg, _, pm⟩ := hs p hp
    intro e
    rw [e] at pm
    have := pm.length_eq
    rw [List.length_map] at this
    exact hG.rne g hg (List.length_eq_zero_iff.mp this.symm)
  · obtain ⟨g, hg, e, pm⟩ := hs p hp
    intro z
    obtain ⟨b, hb, e2⟩ := List.mem_map.mp (pm.mem_iff.mp z)
    have := inj b (rowC g hg b hb) g.1 (inC g hg) (e2.trans e)
    exact hG.self g hg (this ▸ hb)
  · obtain ⟨g, hg, e, pm⟩ := hs p hp
    obtain ⟨d, hd, rfl⟩ := List.mem_map.mp (pm.mem_iff.mp hb)
    obtain ⟨q, hq, e2, hgq⟩ := hG.sym g hg d hd
    obtain ⟨p', hp', e3⟩ := List.mem_map.mp (hM.mem_iff.mpr (List.mem_map.mpr ⟨d, rowC g hg d hd, rfl⟩))
    obtain ⟨g', hg', e4, pm'⟩ := hs p' hp'
    have e5 : g'.1 = d := inj _ (inC g' hg') _ (rowC g hg d hd) (e4.symm.trans e3)
    have e6 : g' = q := same_key hG.nd hg' hq (e5.trans e2.symm)
    subst e6
    refine ⟨p', hp', e3, ?_⟩
    rw [e]
    exact pm'.mem_iff.mpr (List.mem_map.mpr ⟨g.1, hgq, rfl⟩)
  · have := darts_le (n := 4) (M := M) fun p hp => by
      obtain ⟨g, hg, _, pm⟩ := hs p hp
      rw [pm.length_eq, List.length_map]
      exact hG.deg g hg
    omega
def encPl (p : Pl) : PyData := .tuple [.str p.1, .tuple (p.2.map .str)]
theorem alike_pl (p q : Pl) : PySem.W.alike (encPl p) (encPl q) = true := by
  have h := alike_strs p.2 q.2
  simp [encPl, PySem.W.alike, PySem.W.alikeAll, h]
section
variable {K : PySem.W.Frag} {H : Hp}
theorem pls_zip : ∀ {xs : List V} {M : List Pl} {ys : List Addr}, PlsV K H xs M ys → ∃ L : List (V × PyData), L.map (·.1) = xs ∧ L.map (·.2) = M.map encPl ∧ DpZ K H L
  | _, _, _, .nil => ⟨[], rfl, rfl, fun b hb => (nomatch hb)⟩
  | _, _, _, .cons (a := a) (p := p) h f t => by
    obtain ⟨L, h1, h2, h3⟩ := pls_zip t
    refine ⟨(.ref a, encPl p) :: L, by rw [List.map_cons, h1], by rw [List.map_cons, List.map_cons, h2], fun b hb => ?_⟩
    rcases List.mem_cons.mp hb with rfl | hb
    · exact Td.dp (.tup h (.cons (.str _) (.cons (Td.strs f.sqT) .nil)))
    · exact h3 b hb
theorem pls_perm {zs xs : List V} (pm : zs.Perm xs) : ∀ {M : List Pl} {ys : List Addr}, PlsV K H xs M ys → ∃ M' ys', PlsV K H zs M' ys' ∧ M'.Perm M := by
  induction pm with
  | nil =>
    intro M ys h
    cases h
    exact ⟨_, _, .nil, .refl _⟩
  | cons x _ ih =>
    intro M ys h
    cases h with
    | cons h f t =>
      obtain ⟨M', ys', h1, h2⟩ := ih t
      exact ⟨_, _, .cons h f h1, h2.cons _⟩
  | swap x y t =>
    intro M ys h
    cases h with
    | cons h f t =>
      cases t with
      | cons h' f' t => exact ⟨_, _, .cons h' f' (.cons h f t), .swap _ _ _⟩
  | trans _ _ ih1 ih2 =>
    intro M ys h
    obtain ⟨M2, ys2, h1, h2⟩ := ih2 h
    obtain ⟨M1, ys1, h3, h4⟩ := ih1 h1
    exact ⟨M1, ys1, h3, h4.trans h2⟩
theorem pls_snoc {a y : Addr} {p : Pl} (h : SqT K H a [.str p.1, .ref y]) (f : FT H y (p.2.map V.str)) : ∀ {xs : List V} {M : List Pl} {ys : List Addr}, PlsV K H xs M ys → PlsV K H (xs ++ [.ref a]) (M ++ [p]) (ys ++ [y])
  | _, _, _, .nil => .cons h f .nil
  | _, _, _, .cons h1 f1 t => .cons h1 f1 (pls_snoc h f t)
end
section
variable {P : Program} {w : World} {K : PySem.W.Frag} {mg : Str → Option Value} {base : Heap}
def spNamed (K : PySem.W.Frag) : Sp := fun vs H Q _ => ∃ (t h tn : Addr) (E : List Ent), vs = [.ref t, .ref tn] ∧ Tin H t h ∧ TurnAt t h H tn E ∧ GOk (graph E) ∧ 2 ≤ E.length ∧ E.length ≤ 40 ∧
  ∀ (p : Addr) (xs : List V) (M : List Pl) (ys : List Addr) H', SqT K H' p xs → PlsV K H' xs M ys → MapOk M → Tin H' t h → Tm H H' → Q (.ref p) H'
theorem ok_law_named (T : Txt K mg) : FnOk P w K mg base CX0 4 T.d_law_named.f T.d_law_named.fd ["tin", "turn"] (spNamed K) := by
  refine T.d_law_named.F.ok sc_law_named (fun vs H Q E h => ?_) (fun cdv A outer s H vs Q E hr h => ?_)
  · obtain ⟨_, _, _, _, rfl, _⟩ := h
    rfl
  · obtain ⟨t, hh, tn, E, rfl, hT, hE, hG, h2, h40, q⟩ := h
    refine ⟨_, (pss_cons (ps_set (i := 2) sc_law_named.nd rfl (Or.inl rfl) (pe_callB (HT.cr_sortT rfl hr.units) (by rfl) T.n_sorted (by decide +kernel) (pa_cons (pv 1) pa_nil)))
  (pss_cons (ps_set (i := 3) sc_law_named.nd rfl (Or.inl rfl) (pe_call (ok_law_names T) (hr.mono (by decide)) (by rfl) T.d_law_names.m T.d_law_names.F.kp T.d_law_names.b .nil pass0 (pa_cons (pv 0) (pa_cons (pe_callB call_len (by rfl) T.n_len (by decide +kernel) (pa_cons (pv 2) pa_nil)) pa_nil))))
  (pss_cons (ps_set (i := 4) sc_law_named.nd rfl (Or.inr rfl) pe_dnewT)
  (pss_cons (ps_mid (ps_for PassesOwn.never rfl (pi_range1 (by rfl) T.n_range (pa_cons (pe_callB call_len (by rfl) T.n_len (by decide +kernel) (pa_cons (pv 2) pa_nil)) pa_nil)) (pg_name (i := 5) sc_law_named.nd rfl (Or.inl rfl))
    (pss_one (ps_dput (hu_of hr) (pv 4) (pe_ix ix_list (pv 2) (pv 5) (fun _ _ => rfl)) (pe_ix ix_list (pv 3) (pv 5) (fun _ _ => rfl)) rfl))))
  (pss_one (ps_ret (pe_callTy call_tuple_of (by rfl) T.n_tuple (by decide +kernel) (pa_cons (pe_callB (cr_sortD hr.units) (by rfl) T.n_sorted (by decide +kernel) (pa_cons (pe_lc (g := (gName 7)) (tt := _) (te := (tTup (tCons (tDGet (tVar 4) (tVar 7)) (tCons (tCall (spBegun K) [] E0 (tCons (tLc (iList K (tDGet (tVar 1) (tVar 7))) (gName 6) tYes (tDGet (tVar 4) (tVar 6)) [6]) tNil)) tNil)))) (own := [("cell", 7)]) rfl sc_law_named.nd (pi_list (pv 2)) (blkOk_by (own := [("cell", 7)]) (N := ["tin", "turn", "cells", "names", "of", "at", "other", "cell"]) (sc := defScope s_law_named) (by decide +kernel)) (fun _ _ _ _ _ => by refine (pg_name (i := 7) ?_ ?_ ?_); (exact sc_law_named.nd); (exact rfl); (exact (Or.inl rfl))) (fun _ _ _ _ _ => by exact pts_nil) (fun _ _ _ _ _ => by refine (pe_tup ?_); (refine (pa_cons ?_ ?_); (refine (pe_dget (hu_of hr) ?_ ?_ (fun _ _ => rfl)); (exact (pv 4)); (exact (pv 7))); (refine (pa_cons ?_ ?_); (refine (pe_call (ok_law_begun T) (hr.mono (by decide)) (by rfl) T.d_law_begun.m T.d_law_begun.F.kp T.d_law_begun.b .nil pass0 ?_); (refine (pa_cons ?_ ?_); (refine (pe_lc (g := (gName 6)) (tt := _) (te := (tDGet (tVar 4) (tVar 6))) (own := [("other", 6)]) ?_ ?_ ?_ (blkOk_by (own := [("other", 6)]) (N := ["tin", "turn", "cells", "names", "of", "at", "other", "cell"]) (sc := _) (by rfl)) (fun _ _ _ _ _ => by refine (pg_name (i := 6) ?_ ?_ ?_); (exact sc_law_named.nd); (exact rfl); (exact (Or.inl rfl))) (fun _ _ _ _ _ => by exact pts_nil) (fun _ _ _ _ _ => by refine (pe_dget (hu_of hr) ?_ ?_ (fun _ _ => rfl)); (exact (pv 4)); (exact (pv 6)))); (exact rfl); (exact sc_law_named.nd); (refine (pi_list ?_); (refine (pe_dget (hu_of hr) ?_ ?_ (fun _ _ => rfl)); (exact (pv 1)); (exact (pv 7))))); (exact pa_nil))); (exact pa_nil))))) pa_nil)) pa_nil)))))))), ?_⟩
    refine ⟨_, rfl, rSortT.mk tn (E.map fun x => (x.1, V.ref x.2.1)) rfl (by rw [List.map_map]; exact hE.dict) fun p bs hp0 pm hcells => ?_⟩
    rw [List.map_map] at pm
    have sp := same_new (o := .lst (bs.map fun b => V.ref b.1)) hp0
    have bl : bs.length = E.length := by
      have := pm.length_eq
      rw [List.length_map, List.length_map] at this
      exact this
    have hp1 : upd H p (.lst (bs.map fun b => V.ref b.1)) p = some (.lst (bs.map fun b => V.ref b.1)) := upd_same
    have T1 := hT.same sp
    have E1 := hE.same sp
    have fp := hT.ne hp0
    have hc1 : ∀ b ∈ bs, CellAt (upd H p (.lst (bs.map fun b => V.ref b.1))) b.1 b.2 := fun b hb => (hcells b hb).mono (Tm.of sp)
    have tm1 := Tm.of sp
    generalize upd H p (.lst (bs.map fun b => V.ref b.1)) = H1 at *
    refine ⟨_, rfl, _, rfl, _, _, rfl, .inl ⟨_, SqL.of hp1, rfl⟩, t, hh, bs.length, by rw [List.length_map]; rfl, by omega, T1, fun np H2 ns hns nsok r2 T2 hnp0 hnp => ?_⟩
    have E2 := E1.rst T1 r2
    have tm2 := tm1.trans (r2.tm T1)
    have hp2 := r2 _ _ fp.1 fp.2 hp1
    have hc2 : ∀ b ∈ bs, CellAt H2 b.1 b.2 := fun b hb => (hc1 b hb).mono (r2.tm T1)
    have cnd : (bs.map (·.2)).Nodup := pm.nodup_iff.mpr hE.nd
    obtain ⟨nm, rfl⟩ := names_fn (bs.map (·.2)) ns cnd (by rw [List.length_map]; exact hns)
    refine fun od hod => ?_
    have s3 := same_new (o := .dT []) hod
    have T3 := T2.same s3
    have npod : np ≠ od := ne_of_none hnp hod
    have nppd : p ≠ od := ne_of_none hp2 hod
    refine ⟨fun σ' H' => ∃ x5, σ' = [some (.ref t), some (.ref tn), some (.ref p), some (.ref np), some (.ref od), x5, none, none] ∧ Same H2 H' ∧ H' od = some (.dT ((bs.map (·.2)).map fun c => (keyC c, V.str (nm c)))), ?_, ?_⟩
    · refine ⟨_, rfl, _, _, rfl, .inl ⟨_, SqL.of (s3 _ _ hp2), rfl⟩, _, rfl, by rw [List.length_map]; omega, by rw [List.length_map]; omega, for_range (lo := 0) (n := ((bs.map fun b => V.ref b.1).length : Int).toNat) (fun i σ' H' => ∃ x5, σ' = [some (.ref t), some (.ref tn), some (.ref p), some (.ref np), some (.ref od), x5, none, none] ∧ Same H2 H' ∧ H' od = some (.dT (((bs.map (·.2)).take i).map fun c => (keyC c, V.str (nm c))))) ?_ ?_ ?_⟩
      · exact ⟨_, rfl, s3, upd_same⟩
      · rintro i σ' H' hi ⟨x5, rfl, s4, hod4⟩
        rw [List.length_map] at hi
        have hi' : i < bs.length := by omega
        have hb : bs[i]? = some bs[i] := List.getElem?_eq_getElem hi'
        have hbm : bs[i] ∈ bs := List.getElem_mem hi'
        generalize bs[i] = b at hb hbm
        have e0 : (0 : Int) + (i : Int) = ((i : Nat) : Int) := Int.zero_add _
        have hx1 : atI ((((bs.map (·.2)).map nm)).map V.str) (0 + (i : Int)) = some (.str (nm b.2)) := by
          rw [e0]
          exact atI_nat (by rw [List.getElem?_map, List.getElem?_map, List.getElem?_map, hb]; rfl)
        have hx2 : atI (bs.map fun b => V.ref b.1) (0 + (i : Int)) = some (.ref b.1) := by
          rw [e0]
          exact atI_nat (by rw [List.getElem?_map, hb]; rfl)
        have hv : valV (((bs.map (·.2)).take i).map fun c => (keyC c, V.str (nm c))) (keyC b.2) = none := by
          rw [nm_val, if_neg]
          intro hm
          obtain ⟨j, hj⟩ := List.mem_iff_getElem?.mp hm
          rw [List.getElem?_take] at hj
          split at hj
          · rename_i hlt
            have := nd_ix cnd hj (show (bs.map (·.2))[i]? = some b.2 by rw [List.getElem?_map, hb]; rfl)
            omega
          · cases hj
        refine ⟨_, rfl, _, rfl, np, _, _, _, rfl, rfl, SqL.of (s4 _ _ hnp), hx1, _, rfl, _, rfl, _, rfl, p, _, _, _, rfl, rfl, SqL.of (s4 _ _ hp2), hx2, od, _, rfl, DPut.t (k := keyC b.2) hod4 ((hc2 b hbm).mono (Tm.of s4)) ?_, ?_⟩
        · rw [List.length_map, List.length_take, List.length_map]
          exact Nat.lt_of_le_of_lt (Nat.le_trans (Nat.min_le_left _ _) (by omega : i ≤ 40)) (by decide)
        · refine ⟨_, rfl, s4.put hod, ?_⟩
          rw [upd_same, putK_new _ hv, take_snoc (l := bs.map (·.2)) (x := b.2) (by rw [List.getElem?_map, hb]; rfl), List.map_append]
          rfl
      · rintro σ' H' ⟨x5, rfl, s4, hod4⟩
        rw [List.length_map, Int.toNat_natCast, List.take_of_length_le (by rw [List.length_map]; exact Nat.le_refl _)] at hod4
        exact ⟨x5, rfl, s4, hod4⟩
    rintro σ3 H3 ⟨x5, rfl, s4, hod4⟩
    have E3 := E2.same s4
    have hod0 := hod
    have inE : ∀ b ∈ bs, ∃ x ∈ E, x.1 = b.2 := fun b hb => by
      obtain ⟨x, hx, e⟩ := List.mem_map.mp (pm.mem_iff.mp (List.mem_map.mpr ⟨b, hb, rfl⟩))
      exact ⟨x, hx, e⟩
    have inCs : ∀ g ∈ graph E, ∀ c ∈ g.2, c ∈ bs.map (·.2) := fun g hg c hc => by
      obtain ⟨g', hg', e, _⟩ := hG.sym g hg c hc
      obtain ⟨x, hx, rfl⟩ := List.mem_map.mp hg'
      exact pm.mem_iff.mpr (List.mem_map.mpr ⟨x, hx, e⟩)
    refine ⟨_, rfl, p, rfl, ⟨_, SqL.of (s4 _ _ hp2)⟩, fun D hD => lc_list (K := K) (a := p) (xs := bs.map fun b => V.ref b.1) (fun i H' => Same H3 H' ∧ ∃ acc M ys, H' D = some (.lst acc) ∧ PlsV K H' acc M ys ∧ M.map (·.1) = ((bs.map (·.2)).take i).map nm ∧ Stand (graph E) nm M) ?_ ?_ ?_ ?_⟩
    · exact ⟨same_new hD, [], [], [], upd_same, .nil, rfl, fun p hp => (nomatch hp)⟩
    · rintro i H' _ ⟨s5, _⟩
      exact SqL.of (s5 _ _ (s4 _ _ hp2))
    · rintro i x H' hi ⟨s5, acc, M, ys, hD5, hP5, hM5, hS5⟩
      rw [List.getElem?_map] at hi
      obtain ⟨b, hb, rfl⟩ : ∃ b, bs[i]? = some b ∧ x = V.ref b.1 := by
        cases e : bs[i]? with
        | none => rw [e] at hi; cases hi
        | some b => rw [e] at hi; exact ⟨b, rfl, (Option.some.inj hi).symm⟩
      have hbm : b ∈ bs := List.mem_of_getElem? hb
      have hil := (List.getElem?_eq_some_iff.mp hb).1
      obtain ⟨x, hx, hxb⟩ := inE b hbm
      have hg : (x.1, x.2.2) ∈ graph E := List.mem_map.mpr ⟨x, hx, rfl⟩
      have E5 := E3.same s5
      obtain ⟨us, hus, hcu⟩ := E5.rows x hx
      have tm5 := (Tm.of s4).trans (Tm.of s5)
      have hcb : CellAt H' b.1 b.2 := (hc2 b hbm).mono tm5
      have D0 : H3 D = none := hD
      refine ⟨rfl, ?_⟩
      refine ⟨_, rfl, _, rfl, od, .str (nm b.2), rfl, ?_, ?_⟩
      · have z := DGet.t (k := keyC b.2) (s5 _ _ hod4) hcb
        rw [nm_val, if_pos (List.mem_map.mpr ⟨b, hbm, rfl⟩)] at z
        exact z
      refine ⟨_, rfl, _, rfl, tn, .ref x.2.1, rfl, turn_dget E5 hx (hxb ▸ hcb), ?_⟩
      refine ⟨_, rfl, ⟨_, SqL.of hus⟩, fun C hC => lc_list (K := K) (a := x.2.1) (xs := us) (fun j H2 => Same H' H2 ∧ H2 C = some (.lst ((x.2.2.take j).map fun c => V.str (nm c)))) ?_ ?_ ?_ ?_⟩
      · exact ⟨same_new hC, upd_same⟩
      · rintro j H6 _ ⟨s6, _⟩
        exact SqL.of (s6 _ _ hus)
      · rintro j v H6 hj ⟨s6, hC6⟩
        obtain ⟨b', c', rfl, hc', hb'⟩ := hcu.get hj
        have hc'm := List.mem_of_getElem? hc'
        refine ⟨rfl, ?_⟩
        refine ⟨_, rfl, _, rfl, od, .str (nm c'), rfl, ?_, ?_⟩
        · have z := DGet.t (k := keyC c') (s6 _ _ (s5 _ _ hod4)) (hb'.mono (Tm.of s6))
          rw [nm_val, if_pos (inCs _ hg c' hc'm)] at z
          exact z
        · refine ⟨_, hC6, ?_, s6.put hC, ?_⟩
          · have := hG.deg _ hg
            rw [List.length_map, List.length_take]
            exact Nat.lt_of_le_of_lt (Nat.le_trans (Nat.min_le_right _ _) this) (by decide)
          · rw [upd_same, take_snoc hc', List.map_append]
            rfl
      rintro H6 ⟨s6, hC6⟩
      rw [hcu.len, List.take_of_length_le (Nat.le_refl _)] at hC6
      have hrow : x.2.2 ≠ [] := hG.rne _ hg
      have hdeg := hG.deg _ hg
      have e6 : (x.2.2.map fun c => V.str (nm c)) = (x.2.2.map nm).map V.str := by
        rw [List.map_map]
        rfl
      rw [e6] at hC6
      refine ⟨C, x.2.2.map nm, rfl, hC6, by simpa using hrow, by rw [List.length_map]; exact Nat.le_trans hdeg (by decide), fun y k H7 hk s7 hy0 hy => ?_⟩
      have s67 := s6.trans s7
      have hD7 := s67 _ _ hD5
      refine ⟨(by show 2 ≤ sizeLine; decide), fun pr hpr => ?_⟩
      have s8 := same_new (o := .tup [V.str (nm b.2), V.ref y]) hpr
      have s68 := s67.trans s8
      have nDp : D ≠ pr := ne_of_none hD7 hpr
      have lens := hP5.len.1
      have lenM : M.length = ((bs.map (·.2)).take i).length := by
        have := congrArg List.length hM5
        rw [List.length_map, List.length_map] at this
        exact this
      refine ⟨acc, s8 _ _ hD7, ?_, (s5.trans s68).put D0, acc ++ [.ref pr], M ++ [(nm b.2, (x.2.2.map nm).drop k ++ (x.2.2.map nm).take k)], ys ++ [y], upd_same, ?_, ?_, ?_⟩
      · rw [lens, lenM, List.length_take]
        exact Nat.lt_of_le_of_lt (Nat.le_trans (Nat.min_le_left _ _) (by omega : i ≤ 40)) (by decide)
      · have tmD := Tm.lst (o := .lst (acc ++ [V.ref pr])) (s8 _ _ hD7)
        refine pls_snoc (p := (nm b.2, (x.2.2.map nm).drop k ++ (x.2.2.map nm).take k)) (tmD.sqT (SqT.of upd_same)) ?_ (hP5.mono ((Tm.of s68).trans tmD))
        exact hy.mono ((Tm.of s8).trans tmD)
      · rw [List.map_append, hM5, take_snoc (l := bs.map (·.2)) (x := b.2) (by rw [List.getElem?_map, hb]; rfl), List.map_append]
        rfl
      · intro p hp
        rcases List.mem_append.mp hp with z | z
        · exact hS5 p z
        · rw [List.mem_singleton.mp z]
          refine ⟨(x.1, x.2.2), hg, congrArg nm hxb.symm, ?_⟩
          have := List.perm_append_comm (l₁ := (x.2.2.map nm).drop k) (l₂ := (x.2.2.map nm).take k)
          rw [List.take_append_drop] at this
          exact this
    rintro H4 ⟨s5, acc, M, ys, hD5, hP5, hM5, hS5⟩
    rw [List.length_map, List.take_of_length_le (by rw [List.length_map]; exact Nat.le_refl _)] at hM5
    obtain ⟨L, hL1, hL2, hL3⟩ := pls_zip hP5
    refine ⟨⟨D, L, rfl, .inl (by rw [hL1]; exact SqL.of hD5), hL3, ?_, ?_, ?_, fun sp0 hsp => ?_⟩⟩
    · rw [hL2]
      exact PySem.W.AllAlike.of (enc := encPl) alike_pl
    · rw [hL2]
      exact PySem.W.Sortable.tuples (enc := encPl) fun b => ⟨_, _, rfl⟩
    · intro x hx
      have hx2 : x.2 ∈ M.map encPl := by rw [← hL2]; exact List.mem_map.mpr ⟨x, hx, rfl⟩
      obtain ⟨u, _, e⟩ := List.mem_map.mp hx2
      rw [← e]
      show PyData.depthAll [.str u.1, .tuple (u.2.map .str)] + 1 ≤ 8
      have h3 : PyData.depthAll [.str u.1, .tuple (u.2.map .str)] ≤ 2 := depthAll_le fun d hd => by
        rcases List.mem_cons.mp hd with rfl | hd
        · exact Nat.zero_le _
        · rw [List.mem_singleton.mp hd]
          exact depth_strs u.2
      omega
    have pmL := (List.mergeSort_perm L (PySem.W.dataLe false (·.2))).map (·.1)
    rw [hL1] at pmL
    have s6 := same_new (o := .lst ((L.mergeSort (PySem.W.dataLe false (·.2))).map (·.1))) hsp
    obtain ⟨M', ys', hP6, pmM⟩ := pls_perm pmL hP5
    refine ⟨sp0, _, rfl, .inl ⟨SqL.of upd_same, fun tp htp => ?_⟩⟩
    have s7 := same_new (o := .tup ((L.mergeSort (PySem.W.dataLe false (·.2))).map (·.1))) htp
    have sAll := s4.trans (s5.trans (s6.trans s7))
    refine q tp _ M' ys' _ (SqT.of upd_same) (hP6.mono (Tm.of (s6.trans s7))) ?_ (T2.same sAll) (tm2.trans (Tm.of sAll))
    refine MapOk.of (nm := nm) (cs := bs.map (·.2)) hG ?_ nsok ?_ (fun p hp => hS5 p (pmM.mem_iff.mp hp)) (by rw [List.length_map]; omega) (by rw [List.length_map]; omega)
    · unfold graph
      rw [List.map_map]
      exact pm
    · have := pmM.map (·.1)
      rw [hM5] at this
      exact this
end
end K2
namespace K2
open PySem PyProof.Rows L2 HD HT
theorem Roomy.le {w n m : Nat} (h : Roomy w n) (hm : m ≤ n) : Roomy w m := fun C h0 hl => h C h0 (Nat.lt_of_lt_of_le hl hm)
section
variable {P : Program} {w : World} {K : PySem.W.Frag} {mg : Str → Option Value} {base : Heap}
def spMap (K : PySem.W.Frag) : Sp := fun vs H Q _ => ∃ (t h : Addr) (n wd : Nat), vs = [.ref t, .int n, .int wd] ∧ Tin H t h ∧ 2 ≤ n ∧ n ≤ 40 ∧ Roomy wd n ∧
  ∀ (v : V) (M : List Pl) (ys : List Addr) (d : Str × Str) H', Web K H' v M ys d → MapOk M → Tin H' t h → Tm H H' → Q v H'
theorem ok_law_map (T : Txt K mg) : FnOk P w K mg base CX0 5 T.d_law_map.f T.d_law_map.fd ["tin", "many", "wide"] (spMap K) := by
  refine T.d_law_map.F.ok sc_law_map (fun vs H Q E h => ?_) (fun cdv A outer s H vs Q E hr h => ?_)
  · obtain ⟨_, _, _, _, rfl, _⟩ := h
    rfl
  · obtain ⟨t, hh, n, wd, rfl, hT, h2, h40, hroom, q⟩ := h
    refine ⟨_, (pss_cons (ps_set (i := 3) sc_law_map.nd rfl (Or.inl rfl) (pe_call (ok_law_grid T) (hr.mono (by decide)) (by rfl) T.d_law_grid.m T.d_law_grid.F.kp T.d_law_grid.b .nil pass0 (pa_cons (pv 0) (pa_cons (pv 1) (pa_cons (pv 2) (pa_cons (pe_call (ok_law_spill T) (hr.mono (by decide)) (by rfl) T.d_law_spill.m T.d_law_spill.F.kp T.d_law_spill.b .nil pass0 (pa_cons (pv 0) (pa_cons pe_int pa_nil))) pa_nil))))))
  (pss_cons (ps_mid (ps_if (pt_cmpR op_lt (pv 1) pe_int (nomark _))
    (pss_one (ps_expr (pe_call (ok_law_smooth T) (hr.mono (by decide)) (by rfl) T.d_law_smooth.m T.d_law_smooth.F.kp T.d_law_smooth.b .nil pass0 (pa_cons (pv 0) (pa_cons (pv 3) (pa_cons (pe_call (ok_law_spill T) (hr.mono (by decide)) (by rfl) T.d_law_spill.m T.d_law_spill.F.kp T.d_law_spill.b .nil pass0 (pa_cons (pv 0) (pa_cons pe_int pa_nil))) pa_nil))))))
    pss_nil))
  (pss_cons (ps_set (i := 4) sc_law_map.nd rfl (Or.inl rfl) (pe_call (ok_law_named T) (hr.mono (by decide)) (by rfl) T.d_law_named.m T.d_law_named.F.kp T.d_law_named.b .nil pass0 (pa_cons (pv 0) (pa_cons (pv 3) pa_nil))))
  (pss_cons (ps_set (i := 5) sc_law_map.nd rfl (Or.inl rfl) (pe_call (ok_law_faces T) (hr.mono (by decide)) (by rfl) T.d_law_faces.m T.d_law_faces.F.kp T.d_law_faces.b .nil pass0 (pa_cons (pv 4) pa_nil)))
  (pss_one (ps_ret (pe_tup (pa_cons (pv 4) (pa_cons (pe_ix ix_tup (pe_ix ix_list (pv 5) (pe_call (ok_law_spill T) (hr.mono (by decide)) (by rfl) T.d_law_spill.m T.d_law_spill.F.kp T.d_law_spill.b .nil pass0 (pa_cons (pv 0) (pa_cons (pe_callB call_len (by rfl) T.n_len (by decide +kernel) (pa_cons (pv 5) pa_nil)) pa_nil))) (fun _ _ => rfl)) pe_int (fun _ _ => rfl)) pa_nil))))))))), ?_⟩
    refine ⟨_, rfl, _, rfl, _, rfl, _, rfl, t, hh, 11, rfl, by decide, by decide, hT, fun r H1 hr1 r1 T1 => ?_⟩
    refine ⟨t, hh, n, wd, r, rfl, T1, h2, h40, hroom, fun tn E H2 r2 T2 E2 G2 hlen => ?_⟩
    have tm2 := (r1.trans r2).tm hT
    refine ⟨fun σ' H' => ∃ E : List Ent, σ' = [some (.ref t), some (.int n), some (.int wd), some (.ref tn), none, none] ∧ Tin H' t hh ∧ TurnAt t hh H' tn E ∧ GOk (graph E) ∧ 2 ≤ E.length ∧ E.length ≤ 40 ∧ Tm H H', ?_, ?_⟩
    · refine ⟨_, rfl, _, _, rfl, rfl, _, rfl, ?_⟩
      refine ite2 (fun _ => ?_) (fun _ => ?_)
      · refine ⟨_, rfl, _, rfl, _, rfl, t, hh, 4, rfl, by decide, by decide, T2, fun r3 H3 hr3 s3 T3 => ?_⟩
        refine ⟨t, hh, tn, r3, E, rfl, T3, E2.rst T2 s3, G2, by omega, by omega, fun E' H4 T4 E4 G4 l2 l40 tm4 => ?_⟩
        exact ⟨E', rfl, T4, E4, G4, l2, by omega, tm2.trans ((s3.tm T2).trans tm4)⟩
      · exact ⟨E, rfl, T2, E2, G2, by omega, by omega, tm2⟩
    rintro σ' H3 ⟨E', rfl, T3, E3, G3, l2, l40, tm3⟩
    refine ⟨_, rfl, _, rfl, t, hh, tn, E', rfl, T3, E3, G3, l2, l40, fun p xs M ys H4 hp hP hM T4 tm4 => ?_⟩
    refine ⟨_, rfl, p, xs, M, ys, rfl, hp, hP, hM, fun fp H5 fs zs s5 hfp0 hfp td hne hok hl1 hl2 => ?_⟩
    have T5 := T4.same s5
    have nf := T4.ne hfp0
    have lz : zs.length = fs.length := by rw [td.length, List.length_map]
    have lpos := List.length_pos_iff.mpr hne
    refine ⟨_, rfl, _, rfl, _, rfl, _, rfl, _, _, rfl, .inl ⟨_, SqL.of hfp, rfl⟩, t, hh, _, rfl, by omega, by omega, T5, fun r H6 hr6 r6 T6 => ?_⟩
    have hrl : r < fs.length := by omega
    have hfp6 := r6 fp _ nf.1 nf.2 hfp
    obtain ⟨zr, hzr, tdr⟩ := td.get2 (i := r) (d := faceD fs[r]) (by rw [List.getElem?_map, List.getElem?_eq_getElem hrl]; rfl)
    have fo := hok fs[r] (List.getElem_mem hrl)
    generalize fs[r] = f at tdr fo
    obtain ⟨fa, vs, rfl, hfa, tvs⟩ := (tdr.mono (r6.tm T5)).tup_inv
    obtain ⟨d0, fr, rfl⟩ : ∃ d0 fr, f = d0 :: fr := by
      cases f with
      | nil => exact absurd rfl fo.ne
      | cons a r => exact ⟨a, r, rfl⟩
    obtain ⟨v0, hv0, td0⟩ := tvs.get2 (i := 0) (d := encD d0) rfl
    obtain ⟨c, rfl, hc⟩ := td_dart_inv td0
    refine ⟨fp, zs, _, .ref fa, rfl, rfl, SqL.of hfp6, atI_nat hzr, ?_⟩
    refine ⟨fa, vs, 0, .ref c, rfl, rfl, hfa, atI_nat (j := 0) hv0, ?_⟩
    refine ⟨(by show 2 ≤ sizeLine; decide), fun a ha => ?_⟩
    have s7 := same_new (o := .tup [V.ref p, V.ref c]) ha
    have tmE := ((Tm.of s5).trans (r6.tm T5)).trans (Tm.of s7)
    refine q (.ref a) M ys d0 _ ⟨⟨a, p, c, xs, rfl, SqT.of upd_same, tmE.sqT hp, hP.mono tmE, (Tm.of s7).sqT hc⟩, ?_, hM.nd, hM.dlen⟩ hM (T6.same s7) (tm3.trans (tm4.trans tmE))
    have := hM.len
    omega
def spLaw (K : PySem.W.Frag) : Sp := fun vs H Q _ => ∃ (a : Addr) (ns : List Int), vs = [.ref a] ∧ SqL K H a (ns.map V.int) ∧ ns.length ≤ 63 ∧ ∀ H', Q (.bl true) H'
theorem ok_law (T : Txt K mg) : FnOk P w K mg base CX0 8 T.d_law.f T.d_law.fd ["script"] (spLaw K) := by
  refine T.d_law.F.ok sc_law (fun vs H Q E h => ?_) (fun cdv A outer s H vs Q E hr h => ?_)
  · obtain ⟨_, _, rfl, _⟩ := h
    rfl
  · obtain ⟨a, ns, rfl, hS, hl, q⟩ := h
    refine ⟨_, (pss_cons (ps_set (i := 1) sc_law.nd rfl (Or.inl rfl) (pe_call (ok_law_tin T) (hr.mono (by decide)) (by rfl) T.d_law_tin.m T.d_law_tin.F.kp T.d_law_tin.b .nil pass0 (pa_cons (pv 0) pa_nil)))
  (pss_cons (ps_for PassesOwn.never rfl (pi_tup (pe_tup (pa_cons (pe_op op_add pe_int (pe_call (ok_law_spill T) (hr.mono (by decide)) (by rfl) T.d_law_spill.m T.d_law_spill.F.kp T.d_law_spill.b .nil pass0 (pa_cons (pv 1) (pa_cons pe_int pa_nil)))) (pa_cons (pe_op op_add pe_int (pe_call (ok_law_spill T) (hr.mono (by decide)) (by rfl) T.d_law_spill.m T.d_law_spill.F.kp T.d_law_spill.b .nil pass0 (pa_cons (pv 1) (pa_cons pe_int pa_nil)))) pa_nil)))) (pg_name (i := 2) sc_law.nd rfl (Or.inl rfl))
    (pss_cons (ps_set (i := 3) sc_law.nd rfl (Or.inl rfl) (pe_call (ok_law_map T) (hr.mono (by decide)) (by rfl) T.d_law_map.m T.d_law_map.F.kp T.d_law_map.b .nil pass0 (pa_cons (pv 1) (pa_cons (pv 2) (pa_cons pe_int pa_nil)))))
  (pss_one (ps_if (PW.pt (pw_or (pt_not (pt_val (pe_call (ok_law_asked T) (hr.mono (by decide)) (by rfl) T.d_law_asked.m T.d_law_asked.F.kp T.d_law_asked.b .nil pass0 (pa_cons (pv 3) pa_nil)))) (pw_or (pt_not (pt_val (pe_call (ok_law_round T) (hr.mono (by decide)) (by rfl) T.d_law_round.m T.d_law_round.F.kp T.d_law_round.b .nil pass0 (pa_cons (pv 1) (pa_cons (pv 3) pa_nil))))) (pw_or1 (pt_not (pt_val (pe_call (ok_law_refusals T) (hr.mono (by decide)) (by rfl) T.d_law_refusals.m T.d_law_refusals.F.kp T.d_law_refusals.b .nil pass0 (pa_cons (pv 1) (pa_cons (pv 3) pa_nil)))))))))
    (pss_one (ps_ret pe_bl))
    pss_nil))))
  (pss_cons (ps_if (pt_cmpR op_ne (pe_call (ok_law_spill T) (hr.mono (by decide)) (by rfl) T.d_law_spill.m T.d_law_spill.F.kp T.d_law_spill.b .nil pass0 (pa_cons (pv 1) (pa_cons pe_int pa_nil))) pe_int (nomark _))
    (pss_one (ps_ret pe_bl))
    pss_nil)
  (pss_cons (ps_set (i := 3) sc_law.nd rfl (Or.inl rfl) (pe_call (ok_law_map T) (hr.mono (by decide)) (by rfl) T.d_law_map.m T.d_law_map.F.kp T.d_law_map.b .nil pass0 (pa_cons (pv 1) (pa_cons pe_int (pa_cons pe_int pa_nil)))))
  (pss_one (ps_ret (pe_and (pe_call (ok_law_asked T) (hr.mono (by decide)) (by rfl) T.d_law_asked.m T.d_law_asked.F.kp T.d_law_asked.b .nil pass0 (pa_cons (pv 3) pa_nil)) (pe_one (pe_call (ok_law_round T) (hr.mono (by decide)) (by rfl) T.d_law_round.m T.d_law_round.F.kp T.d_law_round.b .nil pass0 (pa_cons (pv 1) (pa_cons (pv 3) pa_nil))))))))))), ?_⟩
    refine ⟨_, rfl, a, ns, rfl, hS, hl, fun t hh H1 s1 T1 => ?_⟩
    refine ⟨_, rfl, t, hh, 5, rfl, by decide, by decide, T1, fun r5 H2 hr5 s2 T2 => ?_⟩
    refine ⟨_, _, rfl, rfl, ?_⟩
    refine ⟨_, rfl, t, hh, 7, rfl, by decide, by decide, T2, fun r7 H3 hr7 s3 T3 => ?_⟩
    refine ⟨_, _, rfl, rfl, ?_⟩
    refine ⟨(by show 2 ≤ sizeLine; decide), fun tp htp => ?_⟩
    have s4 := same_new (o := .tup [V.int (2 + (r5 : Int)), V.int (6 + (r7 : Int))]) htp
    have h4 : upd H3 tp (.tup [V.int (2 + (r5 : Int)), V.int (6 + (r7 : Int))]) tp = some (.tup [V.int (2 + (r5 : Int)), V.int (6 + (r7 : Int))]) := upd_same
    have T4 := T3.same s4
    generalize upd H3 tp (.tup [V.int (2 + (r5 : Int)), V.int (6 + (r7 : Int))]) = H4 at s4 h4 T4
    refine ⟨tp, rfl, ⟨_, SqT.of h4⟩, for_tup (K := K) (a := tp) (xs := [V.int (2 + (r5 : Int)), V.int (6 + (r7 : Int))]) (fun i σ' H' => ∃ x2 x3, σ' = [some (.ref a), some (.ref t), x2, x3] ∧ Tin H' t hh ∧ Tm H4 H') ?_ ?_ ?_ ?_⟩
    · exact ⟨none, none, rfl, T4, Tm.of (Same.refl H4)⟩
    · rintro i σ' H' _ ⟨_, _, _, _, tm⟩
      exact tm.sqT (SqT.of h4)
    · rintro i x σ' H' hi ⟨x2, x3, rfl, T5, tm⟩
      obtain ⟨n, rfl, hn2, hn12⟩ : ∃ n : Nat, x = V.int n ∧ 2 ≤ n ∧ n ≤ 12 := by
        match i, hi with
        | 0, hi =>
          cases hi
          exact ⟨2 + r5, by rw [Int.natCast_add]; rfl, by omega, by omega⟩
        | 1, hi =>
          cases hi
          exact ⟨6 + r7, by rw [Int.natCast_add]; rfl, by omega, by omega⟩
        | i + 2, hi => simp at hi
      refine ⟨_, rfl, _, rfl, t, hh, n, 3, rfl, T5, hn2, by omega, roomy3.le hn12, fun v M ys d H6 W6 M6 T6 tm6 => ?_⟩
      refine ⟨_, rfl, v, M, ys, d, rfl, W6, M6, fun H7 s7 => ⟨_, rfl, ?_⟩⟩
      refine iteF ?_
      refine ⟨_, rfl, _, rfl, t, hh, v, M, ys, d, rfl, T6.same s7, W6.mono (Tm.of s7), M6, fun H8 r8 T8 => ⟨_, rfl, ?_⟩⟩
      refine iteF ?_
      have tm8 := (Tm.of s7).trans (r8.tm (T6.same s7))
      refine ⟨_, rfl, _, rfl, t, hh, v, M, ys, d, rfl, T8, W6.mono tm8, M6, fun H9 r9 T9 => ⟨_, rfl, ?_⟩⟩
      refine iteF ?_
      exact ⟨_, _, rfl, T9, tm.trans (tm6.trans (tm8.trans (r9.tm T8)))⟩
    · rintro σ' H5 ⟨x2, x3, rfl, T5, tm⟩
      refine ⟨_, rfl, t, hh, 11, rfl, by decide, by decide, T5, fun r H6 hr6 r6 T6 => ?_⟩
      refine ⟨rfl, _, rfl, ?_⟩
      refine ite2 (fun _ => q _) (fun _ => ?_)
      refine ⟨_, rfl, t, hh, 40, 5, rfl, T6, by decide, by decide, roomy5, fun v M ys d H7 W7 M7 T7 tm7 => ?_⟩
      refine ⟨_, rfl, v, M, ys, d, rfl, W7, M7, fun H8 s8 => ⟨_, rfl, ?_⟩⟩
      refine iteT ?_
      exact ⟨_, rfl, _, rfl, t, hh, v, M, ys, d, rfl, T7.same s8, W7.mono (Tm.of s8), M7, fun H9 r9 T9 => q _⟩
end
end K2
namespace K2
open PySem PyProof.Rows L2 HD HT
/-! ### what the top has written -/
def dfOf {K : PySem.W.Frag} {h : Heap} {mg : Str → Option Value} (X : K.In h) (G : h.Ns mainGlobals mg) {nm : Str} {st : Stmt} {ps : List Str} {f : Addr} {od an : Option Addr} {sl : Array (Option Value)} {oc kV dc pm cd ct : Value}
    (a : PySem.W.nsIn K mainGlobals nm = some (some (.ref f))) (l : K.lookup f = some ⟨oc, od, .func (PySem.W.fnOf nm nm (defArgs st) (defBody st) (defScope st) .none kV dc pm an cd ct), sl⟩) (c : PySem.W.codeIn K cd nm = true) (k : PySem.W.keepIn K (.ref f) = true)
    (b : ∀ (kV doc pm : Value) (an : Option Addr) (cdv ct : Value) (us : List Value), us.length = ps.length → bindArgs (PySem.W.fnOf nm nm (defArgs st) (defBody st) (defScope st) .none kV doc pm an cdv ct) ⟨us, []⟩ = pure (ps.zip us)) : Df K mg nm st ps :=
  ⟨f, _, fun_mk l c k, (fun_mk l c k).binds b, PySem.W.mg_of X G a⟩
theorem all_mk {l : PySem.W.OpenLaw} {w : World} {K : PySem.W.Frag} {h : Heap} {mg : Str → Option Value} {fa : Addr} (X : K.In h) (G : h.Ns mainGlobals mg) (hfa : mg "law" = some (.ref fa)) {cE cD cC cT cK cS fI : Addr}
    {nm q : Str} {N : Addr} {bs : List Value} {sn : List Str} {sub : List Value} {ab : Bool} {col : Option Bool} {dd : Option Addr} {m0 m1 m2 m3 m5 : Option Value}
    {f0 : Addr} {od0 an0 : Option Addr} {sl0 : Array (Option Value)} {oc0 kV0 dc0 pm0 cd0 ct0 : Value}
    {f1 : Addr} {od1 an1 : Option Addr} {sl1 : Array (Option Value)} {oc1 kV1 dc1 pm1 cd1 ct1 : Value}
    {f2 : Addr} {od2 an2 : Option Addr} {sl2 : Array (Option Value)} {oc2 kV2 dc2 pm2 cd2 ct2 : Value}
    {f3 : Addr} {od3 an3 : Option Addr} {sl3 : Array (Option Value)} {oc3 kV3 dc3 pm3 cd3 ct3 : Value}
    {f4 : Addr} {od4 an4 : Option Addr} {sl4 : Array (Option Value)} {oc4 kV4 dc4 pm4 cd4 ct4 : Value}
    {f5 : Addr} {od5 an5 : Option Addr} {sl5 : Array (Option Value)} {oc5 kV5 dc5 pm5 cd5 ct5 : Value}
    {f6 : Addr} {od6 an6 : Option Addr} {sl6 : Array (Option Value)} {oc6 kV6 dc6 pm6 cd6 ct6 : Value}
    {f7 : Addr} {od7 an7 : Option Addr} {sl7 : Array (Option Value)} {oc7 kV7 dc7 pm7 cd7 ct7 : Value}
    {f8 : Addr} {od8 an8 : Option Addr} {sl8 : Array (Option Value)} {oc8 kV8 dc8 pm8 cd8 ct8 : Value}
    {f9 : Addr} {od9 an9 : Option Addr} {sl9 : Array (Option Value)} {oc9 kV9 dc9 pm9 cd9 ct9 : Value}
    {f10 : Addr} {od10 an10 : Option Addr} {sl10 : Array (Option Value)} {oc10 kV10 dc10 pm10 cd10 ct10 : Value}
    {f11 : Addr} {od11 an11 : Option Addr} {sl11 : Array (Option Value)} {oc11 kV11 dc11 pm11 cd11 ct11 : Value}
    {f12 : Addr} {od12 an12 : Option Addr} {sl12 : Array (Option Value)} {oc12 kV12 dc12 pm12 cd12 ct12 : Value}
    {f13 : Addr} {od13 an13 : Option Addr} {sl13 : Array (Option Value)} {oc13 kV13 dc13 pm13 cd13 ct13 : Value}
    {f14 : Addr} {od14 an14 : Option Addr} {sl14 : Array (Option Value)} {oc14 kV14 dc14 pm14 cd14 ct14 : Value}
    {f15 : Addr} {od15 an15 : Option Addr} {sl15 : Array (Option Value)} {oc15 kV15 dc15 pm15 cd15 ct15 : Value}
    {f16 : Addr} {od16 an16 : Option Addr} {sl16 : Array (Option Value)} {oc16 kV16 dc16 pm16 cd16 ct16 : Value}
    {f17 : Addr} {od17 an17 : Option Addr} {sl17 : Array (Option Value)} {oc17 kV17 dc17 pm17 cd17 ct17 : Value}
    {f18 : Addr} {od18 an18 : Option Addr} {sl18 : Array (Option Value)} {oc18 kV18 dc18 pm18 cd18 ct18 : Value}
    {f19 : Addr} {od19 an19 : Option Addr} {sl19 : Array (Option Value)} {oc19 kV19 dc19 pm19 cd19 ct19 : Value}
    {f20 : Addr} {od20 an20 : Option Addr} {sl20 : Array (Option Value)} {oc20 kV20 dc20 pm20 cd20 ct20 : Value}
    {f21 : Addr} {od21 an21 : Option Addr} {sl21 : Array (Option Value)} {oc21 kV21 dc21 pm21 cd21 ct21 : Value}
    {f22 : Addr} {od22 an22 : Option Addr} {sl22 : Array (Option Value)} {oc22 kV22 dc22 pm22 cd22 ct22 : Value}
    {f23 : Addr} {od23 an23 : Option Addr} {sl23 : Array (Option Value)} {oc23 kV23 dc23 pm23 cd23 ct23 : Value}
    {f24 : Addr} {od24 an24 : Option Addr} {sl24 : Array (Option Value)} {oc24 kV24 dc24 pm24 cd24 ct24 : Value}
    {f25 : Addr} {od25 an25 : Option Addr} {sl25 : Array (Option Value)} {oc25 kV25 dc25 pm25 cd25 ct25 : Value}
    {f26 : Addr} {od26 an26 : Option Addr} {sl26 : Array (Option Value)} {oc26 kV26 dc26 pm26 cd26 ct26 : Value}
    {f27 : Addr} {od27 an27 : Option Addr} {sl27 : Array (Option Value)} {oc27 kV27 dc27 pm27 cd27 ct27 : Value}
    {f28 : Addr} {od28 an28 : Option Addr} {sl28 : Array (Option Value)} {oc28 kV28 dc28 pm28 cd28 ct28 : Value}
    {f29 : Addr} {od29 an29 : Option Addr} {sl29 : Array (Option Value)} {oc29 kV29 dc29 pm29 cd29 ct29 : Value}
    {f30 : Addr} {od30 an30 : Option Addr} {sl30 : Array (Option Value)} {oc30 kV30 dc30 pm30 cd30 ct30 : Value}
    {f31 : Addr} {od31 an31 : Option Addr} {sl31 : Array (Option Value)} {oc31 kV31 dc31 pm31 cd31 ct31 : Value}
    {f32 : Addr} {od32 an32 : Option Addr} {sl32 : Array (Option Value)} {oc32 kV32 dc32 pm32 cd32 ct32 : Value}
    {odI anI : Option Addr} {slI : Array (Option Value)} {ocI kVI dcI pmI cdI ctI : Value}
    (n_range : PySem.W.nsIn K mainGlobals "range" = some none)
    (n_min : PySem.W.nsIn K mainGlobals "min" = some none)
    (n_len : PySem.W.nsIn K mainGlobals "len" = some none)
    (n_abs : PySem.W.nsIn K mainGlobals "abs" = some none)
    (n_int : PySem.W.nsIn K mainGlobals "int" = some none)
    (n_list : PySem.W.nsIn K mainGlobals "list" = some none)
    (n_str : PySem.W.nsIn K mainGlobals "str" = some none)
    (n_sorted : PySem.W.nsIn K mainGlobals "sorted" = some none)
    (n_tuple : PySem.W.nsIn K mainGlobals "tuple" = some none)
    (n_max : PySem.W.nsIn K mainGlobals "max" = some none)
    (n_isinstance : PySem.W.nsIn K mainGlobals "isinstance" = some none)
    (n_bool : PySem.W.nsIn K mainGlobals "bool" = some none)
    (g_BendError : PySem.W.nsIn K mainGlobals "BendError" = some (some (.ref cE)))
    (g_DataError : PySem.W.nsIn K mainGlobals "DataError" = some (some (.ref cD)))
    (g_CallError : PySem.W.nsIn K mainGlobals "CallError" = some (some (.ref cC)))
    (g_TextError : PySem.W.nsIn K mainGlobals "TextError" = some (some (.ref cT)))
    (g_DeskError : PySem.W.nsIn K mainGlobals "DeskError" = some (some (.ref cK)))
    (g_BadStep : PySem.W.nsIn K mainGlobals "BadStep" = some (some (.ref cS)))
    (a0 : PySem.W.nsIn K mainGlobals "turn_table" = some (some (.ref f0)))
    (l0 : K.lookup f0 = some ⟨oc0, od0, .func (PySem.W.fnOf "turn_table" "turn_table" (defArgs s_turn_table) (defBody s_turn_table) (defScope s_turn_table) .none kV0 dc0 pm0 an0 cd0 ct0), sl0⟩)
    (c0 : PySem.W.codeIn K cd0 "turn_table" = true)
    (k0 : PySem.W.keepIn K (.ref f0) = true)
    (a1 : PySem.W.nsIn K mainGlobals "names_of" = some (some (.ref f1)))
    (l1 : K.lookup f1 = some ⟨oc1, od1, .func (PySem.W.fnOf "names_of" "names_of" (defArgs s_names_of) (defBody s_names_of) (defScope s_names_of) .none kV1 dc1 pm1 an1 cd1 ct1), sl1⟩)
    (c1 : PySem.W.codeIn K cd1 "names_of" = true)
    (k1 : PySem.W.keepIn K (.ref f1) = true)
    (a2 : PySem.W.nsIn K mainGlobals "place_or_raise" = some (some (.ref f2)))
    (l2 : K.lookup f2 = some ⟨oc2, od2, .func (PySem.W.fnOf "place_or_raise" "place_or_raise" (defArgs s_place_or_raise) (defBody s_place_or_raise) (defScope s_place_or_raise) .none kV2 dc2 pm2 an2 cd2 ct2), sl2⟩)
    (c2 : PySem.W.codeIn K cd2 "place_or_raise" = true)
    (k2 : PySem.W.keepIn K (.ref f2) = true)
    (a3 : PySem.W.nsIn K mainGlobals "neighbours_of" = some (some (.ref f3)))
    (l3 : K.lookup f3 = some ⟨oc3, od3, .func (PySem.W.fnOf "neighbours_of" "neighbours_of" (defArgs s_neighbours_of) (defBody s_neighbours_of) (defScope s_neighbours_of) .none kV3 dc3 pm3 an3 cd3 ct3), sl3⟩)
    (c3 : PySem.W.codeIn K cd3 "neighbours_of" = true)
    (k3 : PySem.W.keepIn K (.ref f3) = true)
    (a4 : PySem.W.nsIn K mainGlobals "dart_list" = some (some (.ref f4)))
    (l4 : K.lookup f4 = some ⟨oc4, od4, .func (PySem.W.fnOf "dart_list" "dart_list" (defArgs s_dart_list) (defBody s_dart_list) (defScope s_dart_list) .none kV4 dc4 pm4 an4 cd4 ct4), sl4⟩)
    (c4 : PySem.W.codeIn K cd4 "dart_list" = true)
    (k4 : PySem.W.keepIn K (.ref f4) = true)
    (a5 : PySem.W.nsIn K mainGlobals "darts_of" = some (some (.ref f5)))
    (l5 : K.lookup f5 = some ⟨oc5, od5, .func (PySem.W.fnOf "darts_of" "darts_of" (defArgs s_darts_of) (defBody s_darts_of) (defScope s_darts_of) .none kV5 dc5 pm5 an5 cd5 ct5), sl5⟩)
    (c5 : PySem.W.codeIn K cd5 "darts_of" = true)
    (k5 : PySem.W.keepIn K (.ref f5) = true)
    (a6 : PySem.W.nsIn K mainGlobals "link_list" = some (some (.ref f6)))
    (l6 : K.lookup f6 = some ⟨oc6, od6, .func (PySem.W.fnOf "link_list" "link_list" (defArgs s_link_list) (defBody s_link_list) (defScope s_link_list) .none kV6 dc6 pm6 an6 cd6 ct6), sl6⟩)
    (c6 : PySem.W.codeIn K cd6 "link_list" = true)
    (k6 : PySem.W.keepIn K (.ref f6) = true)
    (a7 : PySem.W.nsIn K mainGlobals "links_of" = some (some (.ref f7)))
    (l7 : K.lookup f7 = some ⟨oc7, od7, .func (PySem.W.fnOf "links_of" "links_of" (defArgs s_links_of) (defBody s_links_of) (defScope s_links_of) .none kV7 dc7 pm7 an7 cd7 ct7), sl7⟩)
    (c7 : PySem.W.codeIn K cd7 "links_of" = true)
    (k7 : PySem.W.keepIn K (.ref f7) = true)
    (a8 : PySem.W.nsIn K mainGlobals "are_neighbours" = some (some (.ref f8)))
    (l8 : K.lookup f8 = some ⟨oc8, od8, .func (PySem.W.fnOf "are_neighbours" "are_neighbours" (defArgs s_are_neighbours) (defBody s_are_neighbours) (defScope s_are_neighbours) .none kV8 dc8 pm8 an8 cd8 ct8), sl8⟩)
    (c8 : PySem.W.codeIn K cd8 "are_neighbours" = true)
    (k8 : PySem.W.keepIn K (.ref f8) = true)
    (a9 : PySem.W.nsIn K mainGlobals "dart_or_raise" = some (some (.ref f9)))
    (l9 : K.lookup f9 = some ⟨oc9, od9, .func (PySem.W.fnOf "dart_or_raise" "dart_or_raise" (defArgs s_dart_or_raise) (defBody s_dart_or_raise) (defScope s_dart_or_raise) .none kV9 dc9 pm9 an9 cd9 ct9), sl9⟩)
    (c9 : PySem.W.codeIn K cd9 "dart_or_raise" = true)
    (k9 : PySem.W.keepIn K (.ref f9) = true)
    (a10 : PySem.W.nsIn K mainGlobals "way_behind" = some (some (.ref f10)))
    (l10 : K.lookup f10 = some ⟨oc10, od10, .func (PySem.W.fnOf "way_behind" "way_behind" (defArgs s_way_behind) (defBody s_way_behind) (defScope s_way_behind) .none kV10 dc10 pm10 an10 cd10 ct10), sl10⟩)
    (c10 : PySem.W.codeIn K cd10 "way_behind" = true)
    (k10 : PySem.W.keepIn K (.ref f10) = true)
    (a11 : PySem.W.nsIn K mainGlobals "way_ahead" = some (some (.ref f11)))
    (l11 : K.lookup f11 = some ⟨oc11, od11, .func (PySem.W.fnOf "way_ahead" "way_ahead" (defArgs s_way_ahead) (defBody s_way_ahead) (defScope s_way_ahead) .none kV11 dc11 pm11 an11 cd11 ct11), sl11⟩)
    (c11 : PySem.W.codeIn K cd11 "way_ahead" = true)
    (k11 : PySem.W.keepIn K (.ref f11) = true)
    (a12 : PySem.W.nsIn K mainGlobals "next_dart" = some (some (.ref f12)))
    (l12 : K.lookup f12 = some ⟨oc12, od12, .func (PySem.W.fnOf "next_dart" "next_dart" (defArgs s_next_dart) (defBody s_next_dart) (defScope s_next_dart) .none kV12 dc12 pm12 an12 cd12 ct12), sl12⟩)
    (c12 : PySem.W.codeIn K cd12 "next_dart" = true)
    (k12 : PySem.W.keepIn K (.ref f12) = true)
    (a13 : PySem.W.nsIn K mainGlobals "dart_behind" = some (some (.ref f13)))
    (l13 : K.lookup f13 = some ⟨oc13, od13, .func (PySem.W.fnOf "dart_behind" "dart_behind" (defArgs s_dart_behind) (defBody s_dart_behind) (defScope s_dart_behind) .none kV13 dc13 pm13 an13 cd13 ct13), sl13⟩)
    (c13 : PySem.W.codeIn K cd13 "dart_behind" = true)
    (k13 : PySem.W.keepIn K (.ref f13) = true)
    (a14 : PySem.W.nsIn K mainGlobals "next_ways" = some (some (.ref f14)))
    (l14 : K.lookup f14 = some ⟨oc14, od14, .func (PySem.W.fnOf "next_ways" "next_ways" (defArgs s_next_ways) (defBody s_next_ways) (defScope s_next_ways) .none kV14 dc14 pm14 an14 cd14 ct14), sl14⟩)
    (c14 : PySem.W.codeIn K cd14 "next_ways" = true)
    (k14 : PySem.W.keepIn K (.ref f14) = true)
    (a15 : PySem.W.nsIn K mainGlobals "_law_tin" = some (some (.ref f15)))
    (l15 : K.lookup f15 = some ⟨oc15, od15, .func (PySem.W.fnOf "_law_tin" "_law_tin" (defArgs s_law_tin) (defBody s_law_tin) (defScope s_law_tin) .none kV15 dc15 pm15 an15 cd15 ct15), sl15⟩)
    (c15 : PySem.W.codeIn K cd15 "_law_tin" = true)
    (k15 : PySem.W.keepIn K (.ref f15) = true)
    (a16 : PySem.W.nsIn K mainGlobals "_law_spill" = some (some (.ref f16)))
    (l16 : K.lookup f16 = some ⟨oc16, od16, .func (PySem.W.fnOf "_law_spill" "_law_spill" (defArgs s_law_spill) (defBody s_law_spill) (defScope s_law_spill) .none kV16 dc16 pm16 an16 cd16 ct16), sl16⟩)
    (c16 : PySem.W.codeIn K cd16 "_law_spill" = true)
    (k16 : PySem.W.keepIn K (.ref f16) = true)
    (a17 : PySem.W.nsIn K mainGlobals "_law_strewn" = some (some (.ref f17)))
    (l17 : K.lookup f17 = some ⟨oc17, od17, .func (PySem.W.fnOf "_law_strewn" "_law_strewn" (defArgs s_law_strewn) (defBody s_law_strewn) (defScope s_law_strewn) .none kV17 dc17 pm17 an17 cd17 ct17), sl17⟩)
    (c17 : PySem.W.codeIn K cd17 "_law_strewn" = true)
    (k17 : PySem.W.keepIn K (.ref f17) = true)
    (a18 : PySem.W.nsIn K mainGlobals "_law_names" = some (some (.ref f18)))
    (l18 : K.lookup f18 = some ⟨oc18, od18, .func (PySem.W.fnOf "_law_names" "_law_names" (defArgs s_law_names) (defBody s_law_names) (defScope s_law_names) .none kV18 dc18 pm18 an18 cd18 ct18), sl18⟩)
    (c18 : PySem.W.codeIn K cd18 "_law_names" = true)
    (k18 : PySem.W.keepIn K (.ref f18) = true)
    (a19 : PySem.W.nsIn K mainGlobals "_law_grid" = some (some (.ref f19)))
    (l19 : K.lookup f19 = some ⟨oc19, od19, .func (PySem.W.fnOf "_law_grid" "_law_grid" (defArgs s_law_grid) (defBody s_law_grid) (defScope s_law_grid) .none kV19 dc19 pm19 an19 cd19 ct19), sl19⟩)
    (c19 : PySem.W.codeIn K cd19 "_law_grid" = true)
    (k19 : PySem.W.keepIn K (.ref f19) = true)
    (a20 : PySem.W.nsIn K mainGlobals "_law_smooth" = some (some (.ref f20)))
    (l20 : K.lookup f20 = some ⟨oc20, od20, .func (PySem.W.fnOf "_law_smooth" "_law_smooth" (defArgs s_law_smooth) (defBody s_law_smooth) (defScope s_law_smooth) .none kV20 dc20 pm20 an20 cd20 ct20), sl20⟩)
    (c20 : PySem.W.codeIn K cd20 "_law_smooth" = true)
    (k20 : PySem.W.keepIn K (.ref f20) = true)
    (a21 : PySem.W.nsIn K mainGlobals "_law_begun" = some (some (.ref f21)))
    (l21 : K.lookup f21 = some ⟨oc21, od21, .func (PySem.W.fnOf "_law_begun" "_law_begun" (defArgs s_law_begun) (defBody s_law_begun) (defScope s_law_begun) .none kV21 dc21 pm21 an21 cd21 ct21), sl21⟩)
    (c21 : PySem.W.codeIn K cd21 "_law_begun" = true)
    (k21 : PySem.W.keepIn K (.ref f21) = true)
    (a22 : PySem.W.nsIn K mainGlobals "_law_faces" = some (some (.ref f22)))
    (l22 : K.lookup f22 = some ⟨oc22, od22, .func (PySem.W.fnOf "_law_faces" "_law_faces" (defArgs s_law_faces) (defBody s_law_faces) (defScope s_law_faces) .none kV22 dc22 pm22 an22 cd22 ct22), sl22⟩)
    (c22 : PySem.W.codeIn K cd22 "_law_faces" = true)
    (k22 : PySem.W.keepIn K (.ref f22) = true)
    (a23 : PySem.W.nsIn K mainGlobals "_law_named" = some (some (.ref f23)))
    (l23 : K.lookup f23 = some ⟨oc23, od23, .func (PySem.W.fnOf "_law_named" "_law_named" (defArgs s_law_named) (defBody s_law_named) (defScope s_law_named) .none kV23 dc23 pm23 an23 cd23 ct23), sl23⟩)
    (c23 : PySem.W.codeIn K cd23 "_law_named" = true)
    (k23 : PySem.W.keepIn K (.ref f23) = true)
    (a24 : PySem.W.nsIn K mainGlobals "_law_same" = some (some (.ref f24)))
    (l24 : K.lookup f24 = some ⟨oc24, od24, .func (PySem.W.fnOf "_law_same" "_law_same" (defArgs s_law_same) (defBody s_law_same) (defScope s_law_same) .none kV24 dc24 pm24 an24 cd24 ct24), sl24⟩)
    (c24 : PySem.W.codeIn K cd24 "_law_same" = true)
    (k24 : PySem.W.keepIn K (.ref f24) = true)
    (a25 : PySem.W.nsIn K mainGlobals "_law_is_step" = some (some (.ref f25)))
    (l25 : K.lookup f25 = some ⟨oc25, od25, .func (PySem.W.fnOf "_law_is_step" "_law_is_step" (defArgs s_law_is_step) (defBody s_law_is_step) (defScope s_law_is_step) .none kV25 dc25 pm25 an25 cd25 ct25), sl25⟩)
    (c25 : PySem.W.codeIn K cd25 "_law_is_step" = true)
    (k25 : PySem.W.keepIn K (.ref f25) = true)
    (a26 : PySem.W.nsIn K mainGlobals "_law_heard" = some (some (.ref f26)))
    (l26 : K.lookup f26 = some ⟨oc26, od26, .func (PySem.W.fnOf "_law_heard" "_law_heard" (defArgs s_law_heard) (defBody s_law_heard) (defScope s_law_heard) .none kV26 dc26 pm26 an26 cd26 ct26), sl26⟩)
    (c26 : PySem.W.codeIn K cd26 "_law_heard" = true)
    (k26 : PySem.W.keepIn K (.ref f26) = true)
    (a27 : PySem.W.nsIn K mainGlobals "_law_refused" = some (some (.ref f27)))
    (l27 : K.lookup f27 = some ⟨oc27, od27, .func (PySem.W.fnOf "_law_refused" "_law_refused" (defArgs s_law_refused) (defBody s_law_refused) (defScope s_law_refused) .none kV27 dc27 pm27 an27 cd27 ct27), sl27⟩)
    (c27 : PySem.W.codeIn K cd27 "_law_refused" = true)
    (k27 : PySem.W.keepIn K (.ref f27) = true)
    (a28 : PySem.W.nsIn K mainGlobals "_law_map" = some (some (.ref f28)))
    (l28 : K.lookup f28 = some ⟨oc28, od28, .func (PySem.W.fnOf "_law_map" "_law_map" (defArgs s_law_map) (defBody s_law_map) (defScope s_law_map) .none kV28 dc28 pm28 an28 cd28 ct28), sl28⟩)
    (c28 : PySem.W.codeIn K cd28 "_law_map" = true)
    (k28 : PySem.W.keepIn K (.ref f28) = true)
    (a29 : PySem.W.nsIn K mainGlobals "_law_asked" = some (some (.ref f29)))
    (l29 : K.lookup f29 = some ⟨oc29, od29, .func (PySem.W.fnOf "_law_asked" "_law_asked" (defArgs s_law_asked) (defBody s_law_asked) (defScope s_law_asked) .none kV29 dc29 pm29 an29 cd29 ct29), sl29⟩)
    (c29 : PySem.W.codeIn K cd29 "_law_asked" = true)
    (k29 : PySem.W.keepIn K (.ref f29) = true)
    (a30 : PySem.W.nsIn K mainGlobals "_law_round" = some (some (.ref f30)))
    (l30 : K.lookup f30 = some ⟨oc30, od30, .func (PySem.W.fnOf "_law_round" "_law_round" (defArgs s_law_round) (defBody s_law_round) (defScope s_law_round) .none kV30 dc30 pm30 an30 cd30 ct30), sl30⟩)
    (c30 : PySem.W.codeIn K cd30 "_law_round" = true)
    (k30 : PySem.W.keepIn K (.ref f30) = true)
    (a31 : PySem.W.nsIn K mainGlobals "_law_refusals" = some (some (.ref f31)))
    (l31 : K.lookup f31 = some ⟨oc31, od31, .func (PySem.W.fnOf "_law_refusals" "_law_refusals" (defArgs s_law_refusals) (defBody s_law_refusals) (defScope s_law_refusals) .none kV31 dc31 pm31 an31 cd31 ct31), sl31⟩)
    (c31 : PySem.W.codeIn K cd31 "_law_refusals" = true)
    (k31 : PySem.W.keepIn K (.ref f31) = true)
    (a32 : PySem.W.nsIn K mainGlobals "law" = some (some (.ref f32)))
    (l32 : K.lookup f32 = some ⟨oc32, od32, .func (PySem.W.fnOf "law" "law" (defArgs s_law) (defBody s_law) (defScope s_law) .none kV32 dc32 pm32 an32 cd32 ct32), sl32⟩)
    (c32 : PySem.W.codeIn K cd32 "law" = true)
    (k32 : PySem.W.keepIn K (.ref f32) = true)
    (iC : PySem.W.findIn K (.ref cS) "__init__" = some (some (.ref fI)))
    (tI : PySem.W.typeIn K (.ref fI) = some (.type "function"))
    (lI : K.lookup fI = some ⟨ocI, odI, .func (PySem.W.fnOf "__init__" "BadStep.__init__" (defArgs s_init) (defBody s_init) (defScope s_init) .none kVI dcI pmI anI cdI ctI), slI⟩)
    (cI : PySem.W.codeIn K cdI "BadStep.__init__" = true)
    (kI : PySem.W.keepIn K (.ref fI) = true)
    (xL : K.lookup cS = some (excClassObj nm q cS N bs [.ref cC, .ref cE, .type "ValueError", .type "Exception", .type "BaseException", .type "object"] true sn sub ab col dd m0 m1 m2 m3 m5 "ValueError.__new__"))
    (sa : PySem.W.findIn K (.ref cS) "__setattr__" = some (some (.builtin "object.__setattr__")))
    (exC : PySem.W.subIn K (.ref cS) (.type "BaseException") = some true)
    (tyC : PySem.W.typeIn K (.ref cS) = some (.type "type"))
    (kCS : PySem.W.keepIn K (.ref cS) = true)
    (noW : PySem.W.findIn K (.ref cS) "word" = some none)
    (hg : PySem.W.findIn K (.ref cS) "__getattribute__" = some (some (.builtin "BaseException.__getattribute__")))
    (hk : PySem.W.findIn K (.ref cS) "__getattr__" = some none)
    (hd : PySem.W.hasDictIn K cS = true)
    (ha : PySem.W.findIn K (.ref cS) "__class__" = some (some (.builtin "object.__class__")))
    (hn : PySem.W.specialIn K (.builtin "object.__class__") "__get__" = some (some (.builtin "getset_descriptor.__get__")))
    (ht : PySem.W.takesIn K (.builtin "object.__class__") = some true)
    (hm : PySem.W.mroIn K cS (.type "object") = some true)
    (cl : (PySem.W.clsIn K cS).isSome = true)
    (exS : PySem.W.exmOne K (.ref cS) (.ref cE) = some true)
    (kS : PySem.W.kitOne K (.ref cS) (.ref cS) = some true)
    (kC : PySem.W.kitOne K (.ref cS) (.ref cC) = some true)
    (kT : PySem.W.kitAny K (.ref cS) [.ref cD, .ref cT, .ref cK] = some false) :
    ∃ fd : FuncData, (∀ (s : Shared) (v : Value), BindsTo s fd ⟨[v], []⟩ [("script", v)]) ∧ ∀ base : Heap, K.In base → base.Ns mainGlobals mg → FnOk l.prog w K mg base CX0 8 fa fd ["script"] (spLaw K) := by
  have e := hfa.symm.trans (PySem.W.mg_of X G a32)
  cases e
  let T : Txt K mg := {
    n_range := PySem.W.mg_none_of X G n_range
    n_min := PySem.W.mg_none_of X G n_min
    n_len := PySem.W.mg_none_of X G n_len
    n_abs := PySem.W.mg_none_of X G n_abs
    n_int := PySem.W.mg_none_of X G n_int
    n_list := PySem.W.mg_none_of X G n_list
    n_str := PySem.W.mg_none_of X G n_str
    n_sorted := PySem.W.mg_none_of X G n_sorted
    n_tuple := PySem.W.mg_none_of X G n_tuple
    n_max := PySem.W.mg_none_of X G n_max
    n_isinstance := PySem.W.mg_none_of X G n_isinstance
    n_bool := PySem.W.mg_none_of X G n_bool
    d_turn_table := dfOf X G a0 l0 c0 k0 fun _ _ _ _ _ _ us hl => match us, hl with | [_], _ => rfl
    d_names_of := dfOf X G a1 l1 c1 k1 fun _ _ _ _ _ _ us hl => match us, hl with | [_], _ => rfl
    d_place_or_raise := dfOf X G a2 l2 c2 k2 fun _ _ _ _ _ _ us hl => match us, hl with | [_, _], _ => rfl
    d_neighbours_of := dfOf X G a3 l3 c3 k3 fun _ _ _ _ _ _ us hl => match us, hl with | [_, _], _ => rfl
    d_dart_list := dfOf X G a4 l4 c4 k4 fun _ _ _ _ _ _ us hl => match us, hl with | [_], _ => rfl
    d_darts_of := dfOf X G a5 l5 c5 k5 fun _ _ _ _ _ _ us hl => match us, hl with | [_], _ => rfl
    d_link_list := dfOf X G a6 l6 c6 k6 fun _ _ _ _ _ _ us hl => match us, hl with | [_], _ => rfl
    d_links_of := dfOf X G a7 l7 c7 k7 fun _ _ _ _ _ _ us hl => match us, hl with | [_], _ => rfl
    d_are_neighbours := dfOf X G a8 l8 c8 k8 fun _ _ _ _ _ _ us hl => match us, hl with | [_, _, _], _ => rfl
    d_dart_or_raise := dfOf X G a9 l9 c9 k9 fun _ _ _ _ _ _ us hl => match us, hl with | [_, _, _], _ => rfl
    d_way_behind := dfOf X G a10 l10 c10 k10 fun _ _ _ _ _ _ us hl => match us, hl with | [_, _], _ => rfl
    d_way_ahead := dfOf X G a11 l11 c11 k11 fun _ _ _ _ _ _ us hl => match us, hl with | [_, _], _ => rfl
    d_next_dart := dfOf X G a12 l12 c12 k12 fun _ _ _ _ _ _ us hl => match us, hl with | [_, _], _ => rfl
    d_dart_behind := dfOf X G a13 l13 c13 k13 fun _ _ _ _ _ _ us hl => match us, hl with | [_, _, _], _ => rfl
    d_next_ways := dfOf X G a14 l14 c14 k14 fun _ _ _ _ _ _ us hl => match us, hl with | [_, _, _], _ => rfl
    d_law_tin := dfOf X G a15 l15 c15 k15 fun _ _ _ _ _ _ us hl => match us, hl with | [_], _ => rfl
    d_law_spill := dfOf X G a16 l16 c16 k16 fun _ _ _ _ _ _ us hl => match us, hl with | [_, _], _ => rfl
    d_law_strewn := dfOf X G a17 l17 c17 k17 fun _ _ _ _ _ _ us hl => match us, hl with | [_, _], _ => rfl
    d_law_names := dfOf X G a18 l18 c18 k18 fun _ _ _ _ _ _ us hl => match us, hl with | [_, _], _ => rfl
    d_law_grid := dfOf X G a19 l19 c19 k19 fun _ _ _ _ _ _ us hl => match us, hl with | [_, _, _, _], _ => rfl
    d_law_smooth := dfOf X G a20 l20 c20 k20 fun _ _ _ _ _ _ us hl => match us, hl with | [_, _, _], _ => rfl
    d_law_begun := dfOf X G a21 l21 c21 k21 fun _ _ _ _ _ _ us hl => match us, hl with | [_], _ => rfl
    d_law_faces := dfOf X G a22 l22 c22 k22 fun _ _ _ _ _ _ us hl => match us, hl with | [_], _ => rfl
    d_law_named := dfOf X G a23 l23 c23 k23 fun _ _ _ _ _ _ us hl => match us, hl with | [_, _], _ => rfl
    d_law_same := dfOf X G a24 l24 c24 k24 fun _ _ _ _ _ _ us hl => match us, hl with | [_, _], _ => rfl
    d_law_is_step := dfOf X G a25 l25 c25 k25 fun _ _ _ _ _ _ us hl => match us, hl with | [_, _], _ => rfl
    d_law_heard := dfOf X G a26 l26 c26 k26 fun _ _ _ _ _ _ us hl => match us, hl with | [_, _, _, _], _ => rfl
    d_law_refused := dfOf X G a27 l27 c27 k27 fun _ _ _ _ _ _ us hl => match us, hl with | [_, _, _, _], _ => rfl
    d_law_map := dfOf X G a28 l28 c28 k28 fun _ _ _ _ _ _ us hl => match us, hl with | [_, _, _], _ => rfl
    d_law_asked := dfOf X G a29 l29 c29 k29 fun _ _ _ _ _ _ us hl => match us, hl with | [_], _ => rfl
    d_law_round := dfOf X G a30 l30 c30 k30 fun _ _ _ _ _ _ us hl => match us, hl with | [_, _], _ => rfl
    d_law_refusals := dfOf X G a31 l31 c31 k31 fun _ _ _ _ _ _ us hl => match us, hl with | [_, _], _ => rfl
    d_law := dfOf X G a32 l32 c32 k32 fun _ _ _ _ _ _ us hl => match us, hl with | [_], _ => rfl
    cE := cE
    cD := cD
    cC := cC
    cT := cT
    cK := cK
    cS := cS
    fI := fI
    fdI := _
    g_BendError := PySem.W.mg_of X G g_BendError
    g_DataError := PySem.W.mg_of X G g_DataError
    g_CallError := PySem.W.mg_of X G g_CallError
    g_TextError := PySem.W.mg_of X G g_TextError
    g_DeskError := PySem.W.mg_of X G g_DeskError
    g_BadStep := PySem.W.mg_of X G g_BadStep
    ox := ⟨⟨nm, q, N, bs, _, sn, sub, ab, col, dd, m0, m1, m2, m3, m5, xL, by rfl⟩, sa, exC, tyC, kCS⟩
    iC := iC
    tI := tI
    FI := fun_mk (st := s_init) lI cI kI
    bI := (fun_mk (st := s_init) lI cI kI).binds fun _ _ _ _ _ _ us hl => match us, hl with | [_, _], _ => rfl
    noW := noW
    xi := { hg := hg, hk := hk, hs := exC, hd := hd, ha := ha, hn := hn, ht := ht, hm := hm, cl := cl }
    exS := exS
    kS := kS
    kC := kC
    kT := kT }
  exact ⟨_, fun s v => .of_eq rfl, fun base _ _ => ok_law (P := l.prog) (w := w) (base := base) T⟩
theorem walk {l : PySem.W.OpenLaw} {q : Program} {loose : List Str} {XP : (Str → Option Value) → Heap → Prop} {YP : World → Heap → Prop} {d : DefRec} {K : Params → PySem.W.Frag} (hn : l.most = some 63) (hdf : d.params.defaults = [])
    (hY : ∀ (w : World) (h : Heap), YP w h → (K w.params).In h)
    (F : ∀ (w : World) (mg : Str → Option Value) (fa : Addr) (h : Heap), (K w.params).In h → h.Ns mainGlobals mg → mg d.name = some (.ref fa) →
      ∃ fd : FuncData, (∀ (s : Shared) (u : Value), BindsTo s fd ⟨[u], []⟩ [("script", u)]) ∧ ∀ base : Heap, (K w.params).In base → base.Ns mainGlobals mg → FnOk l.prog w (K w.params) mg base CX0 8 fa fd ["script"] (spLaw (K w.params))) :
    PySem.W.WalkO q loose XP YP l.row.toRowW d [] (fun f vs => PySem.call f vs) :=
  L2.walk_of (n := 63) (k := 8) (x := "script") (CX := fun _ => CX0) (sp := fun w => spLaw (K w.params)) hn (by decide) hdf ⟨rfl, by decide, by decide⟩ hY F (fun _ _ a ns hl _ hS => ⟨a, ns, rfl, hS, hl, fun _ => rfl⟩) fun _ _ _ _ _ z => z
end K2
open PySem PySem.W PyProof.Rows in
set_option maxRecDepth 100000 in
set_option maxHeartbeats 0 in
theorem PySem.Challenge.cw_fewestbends_k02_places_darts_ways_holds : PySem.Challenge.rw_fewestbends_k02_places_darts_ways.Holds := by
  w_on; o_law; k_head; (case hw => w_witness2)
  k_fill
  refine K2.walk (l := PySem.Challenge.rw_fewestbends_k02_places_darts_ways) rfl rfl (fun w h Y => PySem.W.kIn_of Y) ?F
  case F =>
    intro w mg fa h KX G hmg
    refine' K2.all_mk KX G hmg ?n_range ?n_min ?n_len ?n_abs ?n_int ?n_list ?n_str ?n_sorted ?n_tuple ?n_max ?n_isinstance ?n_bool ?g_BendError ?g_DataError ?g_CallError ?g_TextError ?g_DeskError ?g_BadStep ?a0 ?l0 ?c0 ?k0 ?a1 ?l1 ?c1 ?k1 ?a2 ?l2 ?c2 ?k2 ?a3 ?l3 ?c3 ?k3 ?a4 ?l4 ?c4 ?k4 ?a5 ?l5 ?c5 ?k5 ?a6 ?l6 ?c6 ?k6 ?a7 ?l7 ?c7 ?k7 ?a8 ?l8 ?c8 ?k8 ?a9 ?l9 ?c9 ?k9 ?a10 ?l10 ?c10 ?k10 ?a11 ?l11 ?c11 ?k11 ?a12 ?l12 ?c12 ?k12 ?a13 ?l13 ?c13 ?k13 ?a14 ?l14 ?c14 ?k14 ?a15 ?l15 ?c15 ?k15 ?a16 ?l16 ?c16 ?k16 ?a17 ?l17 ?c17 ?k17 ?a18 ?l18 ?c18 ?k18 ?a19 ?l19 ?c19 ?k19 ?a20 ?l20 ?c20 ?k20 ?a21 ?l21 ?c21 ?k21 ?a22 ?l22 ?c22 ?k22 ?a23 ?l23 ?c23 ?k23 ?a24 ?l24 ?c24 ?k24 ?a25 ?l25 ?c25 ?k25 ?a26 ?l26 ?c26 ?k26 ?a27 ?l27 ?c27 ?k27 ?a28 ?l28 ?c28 ?k28 ?a29 ?l29 ?c29 ?k29 ?a30 ?l30 ?c30 ?k30 ?a31 ?l31 ?c31 ?k31 ?a32 ?l32 ?c32 ?k32 ?iC ?tI ?lI ?cI ?kI ?xL ?sa ?exC ?tyC ?kCS ?noW ?hg ?hk ?hd ?ha ?hn ?ht ?hm ?cl ?exS ?kS ?kC ?kT
    (case n_range => k_is)
    (case n_min => k_is)
    (case n_len => k_is)
    (case n_abs => k_is)
    (case n_int => k_is)
    (case n_list => k_is)
    (case n_str => k_is)
    (case n_sorted => k_is)
    (case n_tuple => k_is)
    (case n_max => k_is)
    (case n_isinstance => k_is)
    (case n_bool => k_is)
    (case g_BendError => k_is)
    (case g_DataError => k_is)
    (case g_CallError => k_is)
    (case g_TextError => k_is)
    (case g_DeskError => k_is)
    (case g_BadStep => k_is)
    (case a0 => k_is)
    (case l0 => k_is)
    (case c0 => k_is)
    (case k0 => k_is)
    (case a1 => k_is)
    (case l1 => k_is)
    (case c1 => k_is)
    (case k1 => k_is)
    (case a2 => k_is)
    (case l2 => k_is)
    (case c2 => k_is)
    (case k2 => k_is)
    (case a3 => k_is)
    (case l3 => k_is)
    (case c3 => k_is)
    (case k3 => k_is)
    (case a4 => k_is)
    (case l4 => k_is)
    (case c4 => k_is)
    (case k4 => k_is)
    (case a5 => k_is)
    (case l5 => k_is)
    (case c5 => k_is)
    (case k5 => k_is)
    (case a6 => k_is)
    (case l6 => k_is)
    (case c6 => k_is)
    (case k6 => k_is)
    (case a7 => k_is)
    (case l7 => k_is)
    (case c7 => k_is)
    (case k7 => k_is)
    (case a8 => k_is)
    (case l8 => k_is)
    (case c8 => k_is)
    (case k8 => k_is)
    (case a9 => k_is)
    (case l9 => k_is)
    (case c9 => k_is)
    (case k9 => k_is)
    (case a10 => k_is)
    (case l10 => k_is)
    (case c10 => k_is)
    (case k10 => k_is)
    (case a11 => k_is)
    (case l11 => k_is)
    (case c11 => k_is)
    (case k11 => k_is)
    (case a12 => k_is)
    (case l12 => k_is)
    (case c12 => k_is)
    (case k12 => k_is)
    (case a13 => k_is)
    (case l13 => k_is)
    (case c13 => k_is)
    (case k13 => k_is)
    (case a14 => k_is)
    (case l14 => k_is)
    (case c14 => k_is)
    (case k14 => k_is)
    (case a15 => k_is)
    (case l15 => k_is)
    (case c15 => k_is)
    (case k15 => k_is)
    (case a16 => k_is)
    (case l16 => k_is)
    (case c16 => k_is)
    (case k16 => k_is)
    (case a17 => k_is)
    (case l17 => k_is)
    (case c17 => k_is)
    (case k17 => k_is)
    (case a18 => k_is)
    (case l18 => k_is)
    (case c18 => k_is)
    (case k18 => k_is)
    (case a19 => k_is)
    (case l19 => k_is)
    (case c19 => k_is)
    (case k19 => k_is)
    (case a20 => k_is)
    (case l20 => k_is)
    (case c20 => k_is)
    (case k20 => k_is)
    (case a21 => k_is)
    (case l21 => k_is)
    (case c21 => k_is)
    (case k21 => k_is)
    (case a22 => k_is)
    (case l22 => k_is)
    (case c22 => k_is)
    (case k22 => k_is)
    (case a23 => k_is)
    (case l23 => k_is)
    (case c23 => k_is)
    (case k23 => k_is)
    (case a24 => k_is)
    (case l24 => k_is)
    (case c24 => k_is)
    (case k24 => k_is)
    (case a25 => k_is)
    (case l25 => k_is)
    (case c25 => k_is)
    (case k25 => k_is)
    (case a26 => k_is)
    (case l26 => k_is)
    (case c26 => k_is)
    (case k26 => k_is)
    (case a27 => k_is)
    (case l27 => k_is)
    (case c27 => k_is)
    (case k27 => k_is)
    (case a28 => k_is)
    (case l28 => k_is)
    (case c28 => k_is)
    (case k28 => k_is)
    (case a29 => k_is)
    (case l29 => k_is)
    (case c29 => k_is)
    (case k29 => k_is)
    (case a30 => k_is)
    (case l30 => k_is)
    (case c30 => k_is)
    (case k30 => k_is)
    (case a31 => k_is)
    (case l31 => k_is)
    (case c31 => k_is)
    (case k31 => k_is)
    (case a32 => k_is)
    (case l32 => k_is)
    (case c32 => k_is)
    (case k32 => k_is)
    (case iC => k_is)
    (case tI => k_is)
    (case lI => k_is)
    (case cI => k_is)
    (case kI => k_is)
    (case xL => k_is)
    (case sa => k_is)
    (case exC => k_is)
    (case tyC => k_is)
    (case kCS => k_is)
    (case noW => k_is)
    (case hg => k_is)
    (case hk => k_is)
    (case hd => k_is)
    (case ha => k_is)
    (case hn => k_is)
    (case ht => k_is)
    (case hm => k_is)
    (case cl => first | k_is | rfl)
    (case exS => first | k_is | rfl)
    (case kS => first | k_is | rfl)
    (case kC => first | k_is | rfl)
    (case kT => first | k_is | rfl)
#print axioms PySem.Challenge.cw_fewestbends_k02_places_darts_ways_holds
