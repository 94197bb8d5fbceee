import PyProof.Rows.All
import Wide.All
import OpenK.AllK
import Wide.FinOn
import HandS.ForMost
import HandS.Wide
import HandS.Strs
import HandS.DictComp
import HandS.Deep
import HandS.ExcValue
import KE.SortData
import KE.DataMinMax
import KE.LtData
import PyProof.TupleOfSeq
import PyProof.ListStr
import HandS.ExcInit
import HandS.ExcField
import HandS.ExcIs
import HandS.ExcCtx
import HandS.WordsExc
import HandS.HotCalls
import HandS.IsInst
import HandS.New
import KE.KExcIs
import HandS.DictTup
import HandS.TryOnly
import HandS.Conv
import KE.KDictKeyed
import KE.KDictLaw
import HandS.TupLen
import KE.KDictDisplayH
import KE.KDictCopyH
import HandS.TupAny
import HandS.Defaults
import HandS.MakeKw
import PySem.Challenge.RW_fewestbends_k28_cases
set_option Elab.async false
set_option maxRecDepth 100000
set_option maxHeartbeats 4000000
set_option linter.unusedVariables false
set_option linter.unusedSectionVars false
/-! rules over data: sorted, min, of lists and tuples whose items read as data -/
namespace HD
open PySem PySem.W PySem.SeqAt PyProof.Rows L2
section
variable {prog : Program} {w : World} {A : Around} {E : Value → Shared → Prop} {s : Shared}
/-- sorted(x) is list.sort on a new list of what is collected -/
theorem sorted_gen {x : Value} {vs : List Value} {Q : Value → Shared → Prop} (hL : vs.length ≤ sizeLine)
    (hc : ∀ (E' : Value → Shared → Prop) (Q' : List Value → Shared → Prop), (∀ (h' : Heap) (tk : Nat), (∀ b o, s.heap.get? b = some o → h'.get? b = some o) → Q' vs { s with heap := h', toks := tk }) → wpAny (model prog w) A.in1 (collect x) Q' E' s)
    (body : ∀ (h' : Heap) (tk : Nat), (∀ b o, s.heap.get? b = some o → h'.get? b = some o) → ∀ E' : Value → Shared → Prop,
      wpAny (model prog w) A.in1.in1 (Builtin.«list.sort» ⟨[.ref h'.objs.size], []⟩) (fun f s' => f = .done (.ret .none) ∧ Q (.ref h'.objs.size) s') E' { s with heap := h'.push (seqObj "list" vs.toArray 0), toks := tk }) :
    wpAny (model prog w) A (call (.builtin "sorted") [x]) Q E s := by
  refine call_function_entry_kw kind_sorted plain_sorted entry_sorted (args_sorted1 _) ?_
  unfold Builtin.«sorted»
  refine wpAny_bind (m := checkCount "sorted" 1 1 _) (wpAny_pure ?_)
  refine wpAny_bind (hc _ _ fun h' tk k => ?_)
  refine wpAny_bind (wpAny_newList ?_ hL)
  have ho : (h'.push (seqObj "list" vs.toArray 0)).get? h'.objs.size = some (seqObj "list" vs.toArray 0) := Heap.get?_push_size _ rfl
  refine wpAny_bind (wpAny_holding (wpAny_call_entry_kw slot_list_sort ⟨_, ho, rfl⟩ entry_list_sort ?body (args_list_sort _)))
  case body =>
    show wpAny (model prog w) A.in1.in1 (Builtin.«list.sort» ⟨[.ref h'.objs.size], []⟩) _ _ _
    refine wpAny_mono (body h' tk k _) (fun f s' hf => ?_) fun _ _ e => e
    obtain ⟨rfl, hq⟩ := hf
    exact ⟨_, rfl, wpAny_pure ⟨_, rfl, hq⟩⟩
/-- the items of a new heap's list sorted by their data -/
theorem sorted_dataG {x : Value} {vs : List Value} {β : Type} {bs : List β} {enc : β → PyData} {R : Value → β → Prop} {Q : Value → Shared → Prop} (hL : vs.length ≤ sizeLine)
    (hc : ∀ (E' : Value → Shared → Prop) (Q' : List Value → Shared → Prop), (∀ (h' : Heap) (tk : Nat), (∀ b o, s.heap.get? b = some o → h'.get? b = some o) → Q' vs { s with heap := h', toks := tk }) → wpAny (model prog w) A.in1 (collect x) Q' E' s)
    (e : EachIs R vs bs) (er : EachIs (fun v b => ∃ as, Reads s.heap v (enc b) as) vs bs) (hal : AllAlike (bs.map enc)) (hk : Sortable (bs.map enc))
    (hu : ∀ b, b ∈ bs → A.units + 2 + (enc b).depth < cLine)
    (h : ∀ (h' : Heap) (tk : Nat) (p : Addr) (out : List Value), (∀ b o, s.heap.get? b = some o → h'.get? b = some o) → s.heap.get? p = none → (∃ n, h'.get? p = some (seqObj "list" (List.toArray out) n)) → out.length = bs.length → EachIs R out (bs.mergeSort (dataLe false enc)) → Q (.ref p) { s with heap := h', toks := tk }) :
    wpAny (model prog w) A (call (.builtin "sorted") [x]) Q E s := by
  refine sorted_gen hL hc fun h' tk k E' => ?_
  have ho : (h'.push (seqObj "list" vs.toArray 0)).get? h'.objs.size = some (seqObj "list" vs.toArray 0) := Heap.get?_push_size _ rfl
  have old : ∀ b o, s.heap.get? b = some o → b ≠ h'.objs.size := fun b o q => Nat.ne_of_lt (Heap.lt_size (k b o q))
  have hnew : s.heap.get? h'.objs.size = none := by
    cases q : s.heap.get? h'.objs.size with
    | none => rfl
    | some o => exact absurd rfl (old _ _ q)
  have kk : ∀ b o, s.heap.get? b = some o → (sortingHeap (h'.push (seqObj "list" vs.toArray 0)) h'.objs.size vs).get? b = some o := fun b o q =>
    sortingHeap_old (old b o q) (Heap.get?_push_of_some _ (k b o q))
  have er' : EachIs (fun v b => ∃ as, Reads (sortingHeap (h'.push (seqObj "list" vs.toArray 0)) h'.objs.size vs) v (enc b) as) vs bs := er.mono fun _ _ ⟨as, r⟩ => ⟨as, PyProof.Rows.Reads.keeps kk r⟩
  refine list_sort_vals (s := { s with heap := h'.push (seqObj "list" vs.toArray 0), toks := tk }) (κ := dataKind (sortingHeap (h'.push (seqObj "list" vs.toArray 0)) h'.objs.size vs) (bs.map enc)) ho
    (SortsAt.data (s := { s with heap := sortingHeap (h'.push (seqObj "list" vs.toArray 0)) h'.objs.size vs, toks := tk }) (each_map (R := fun v d => ∃ as, Reads (sortingHeap (h'.push (seqObj "list" vs.toArray 0)) h'.objs.size vs) v d as) enc er') hal hk (bound_map hu)) hL ⟨rfl, ?_⟩
  refine h _ _ _ (sortVals (dataKind (sortingHeap (h'.push (seqObj "list" vs.toArray 0)) h'.objs.size vs) (bs.map enc)) false vs vs) (fun b o q => ?_) hnew (sortedHeap_at ho) (by rw [sortVals_length false rfl]; exact e.length) (sortVals_data false e er' hal)
  have hlt := Heap.lt_size (k b o q)
  rw [sortedHeap_old (old b o q) (by rw [size_push']; exact Nat.lt_succ_of_lt hlt)]
  exact Heap.get?_push_of_some _ (k b o q)
end
/-! ### min and max of two -/
section
variable {prog : Program} {w : World} {A : Around} {E : Value → Shared → Prop} {s : Shared}
theorem call_min_two_walkH {a b : Value} {Q : Value → Shared → Prop}
    (h : wpAny (model prog w) A.in1 (pyIter (.ref s.heap.objs.size)) (fun it s₂ => ∃ I fp wr G n P St H bt, it = .ref I ∧ WalksS prog w A.in1 I fp wr G n P St ∧ St 0 s₂ ∧ (∀ b ∈ fp, b < s₂.heap.objs.size) ∧ 0 < n ∧
      (∀ b o, H.get? b = some o → b ∉ wr) ∧ (∀ b o, H.get? b = some o → s₂.heap.get? b = some o) ∧ CmpIn prog w A.in1 .Lt H P bt ∧ ∀ v s', P (argBest bt (n - 1)) v → Moved wr G s₂ s' → Q v s') E
      { s with heap := s.heap.push { cls := .type "tuple", data := .seq #[a, b] } }) :
    wpAny (model prog w) A (call (.builtin "min") [a, b]) Q E s := by
  have hname : (toString "min" ++ toString ".loop" : String) = "min.loop" := by decide
  refine call_function_tree F.kind_min F.plain_min F.entry_min (F.args_min2 _ _) ?_
  show wpAny _ A.in1 (Builtin.Builtins.bindParams "min" ["key", "default"] 0 ⟨[], []⟩ >>= _) _ _ s
  refine wpAny_bind (wpAny_of_eq (show Builtin.Builtins.bindParams "min" ["key", "default"] 0 ⟨[], []⟩ = pure [none, none] from rfl) ?_)
  show wpAny _ A.in1 (newTuple [a, b] >>= _) _ _ s
  refine wpAny_bind (wpAny_newObj_type ?_)
  refine wpAny_bind (wpAny_mono h (fun it s₂ h₂ => ?_) fun _ _ e => e)
  obtain ⟨I, fp, wr, G, n, P, St, H, bt, rfl, W, hst, hfp, hn, hw, hkeep, hcmp, hQ⟩ := h₂
  refine wpAny_bind (wpAny_newObj_type ?_)
  have hSf : s₂.heap.objs.size ∉ fp := fun hm => Nat.lt_irrefl _ (hfp _ hm)
  rw [hname]
  refine wpAny_pure ⟨plainId_quiet F.plain_min_loop _, codeAny_min_loop_firstH W H hw bt hcmp s₂.heap.objs.size hSf (fresh_in hkeep) _ hn (fun b o e => Heap.get?_push_of_some _ (hkeep b o e)) (W.frame 0 s₂ _ s₂.toks hst (Nat.le_refl _) fun b _ o e => Heap.get?_push_of_some _ e) (Heap.get?_push_size _ rfl) fun v s' hP hm => ?_⟩
  exact hQ v s' hP (Moved.drop_new (tk := s₂.toks) hm (Nat.le_refl _))
theorem min_two_data {a b : Value} {x y : PyData} {as bs : List Addr} {Q : Value → Shared → Prop} (hh : A.handled = none) (ra : Reads s.heap a x as) (rb : Reads s.heap b y bs) (ha : AlikeAll [x, y]) (hu : A.units + 1 + PyData.depthAll [x, y] < cLine)
    (h : ∀ v h' tk cs, (v = a ∨ v = b) → Reads h' v (minD x [y]) cs → (∀ b o, s.heap.get? b = some o → h'.get? b = some o) → Q v { s with heap := h', toks := tk }) :
    wpAny (model prog w) A (call (.builtin "min") [a, b]) Q E s := by
  have k0 : ∀ c o, s.heap.get? c = some o → (s.heap.push { cls := .type "tuple", data := .seq #[a, b] }).get? c = some o := fun c o e => Heap.get?_push_of_some _ e
  have hT : (s.heap.push { cls := .type "tuple", data := .seq #[a, b] }).IsTuple s.heap.objs.size #[a, b] := ⟨_, Heap.get?_push_size _ rfl, rfl, 0, rfl⟩
  have hr : ReadsAll (s.heap.push { cls := .type "tuple", data := .seq #[a, b] }) (#[a, b] : Array Value).toList [x, y] (as ++ (bs ++ [])) := .cons (Reads.keeps k0 ra) (.cons (Reads.keeps k0 rb) .nil)
  refine call_min_two_walkH (iter_tupleW (A := A.in1) hh hT fun s₂ e W st hfp hw hk => ?_)
  refine ⟨_, _, _, _, _, _, _, (s.heap.push { cls := .type "tuple", data := .seq #[a, b] }), _, rfl, W, st, hfp, Nat.zero_lt_succ 1, hw, hk, cmpIn_lt (s := { s with heap := s.heap.push { cls := .type "tuple", data := .seq #[a, b] } }) (A := A.in1) hr ha (by show A.units + 1 + _ < _; exact hu), fun v s' hP m => ?_⟩
  obtain ⟨h', tk, rfl, hk'⟩ := moved_old (s := { s with heap := s.heap.push { cls := .type "tuple", data := .seq #[a, b] } }) e rfl m
  obtain ⟨cs, r, _, _, _⟩ := readsAll_atA (xs := [x, y]) hr _ v hP
  have e2 := (argBest_fold dataLt PyData.none x [y] 1 (Nat.le_refl _)).2
  have hv : v = a ∨ v = b := by
    have hm : v ∈ [a, b] := by
      have q := List.mem_of_getElem? (l := [a, b]) (by simpa using hP)
      exact q
    simpa using hm
  exact h v h' tk cs hv (Reads.keeps hk' (by unfold minD; rw [List.take_of_length_le (by simp)] at e2; rw [← e2]; exact r)) fun b o q => hk' b o (k0 b o q)

theorem call_max_two_walkH {a b : Value} {Q : Value → Shared → Prop}
    (h : wpAny (model prog w) A.in1 (pyIter (.ref s.heap.objs.size)) (fun it s₂ => ∃ I fp wr G n P St H bt, it = .ref I ∧ WalksS prog w A.in1 I fp wr G n P St ∧ St 0 s₂ ∧ (∀ b ∈ fp, b < s₂.heap.objs.size) ∧ 0 < n ∧
      (∀ b o, H.get? b = some o → b ∉ wr) ∧ (∀ b o, H.get? b = some o → s₂.heap.get? b = some o) ∧ CmpIn prog w A.in1 .Gt H P bt ∧ ∀ v s', P (argBest bt (n - 1)) v → Moved wr G s₂ s' → Q v s') E
      { s with heap := s.heap.push { cls := .type "tuple", data := .seq #[a, b] } }) :
    wpAny (model prog w) A (call (.builtin "max") [a, b]) Q E s := by
  have hname : (toString "max" ++ toString ".loop" : String) = "max.loop" := by decide
  refine call_function_tree F.kind_max F.plain_max F.entry_max (F.args_max2 _ _) ?_
  show wpAny _ A.in1 (Builtin.Builtins.bindParams "max" ["key", "default"] 0 ⟨[], []⟩ >>= _) _ _ s
  refine wpAny_bind (wpAny_of_eq (show Builtin.Builtins.bindParams "max" ["key", "default"] 0 ⟨[], []⟩ = pure [none, none] from rfl) ?_)
  show wpAny _ A.in1 (newTuple [a, b] >>= _) _ _ s
  refine wpAny_bind (wpAny_newObj_type ?_)
  refine wpAny_bind (wpAny_mono h (fun it s₂ h₂ => ?_) fun _ _ e => e)
  obtain ⟨I, fp, wr, G, n, P, St, H, bt, rfl, W, hst, hfp, hn, hw, hkeep, hcmp, hQ⟩ := h₂
  refine wpAny_bind (wpAny_newObj_type ?_)
  have hSf : s₂.heap.objs.size ∉ fp := fun hm => Nat.lt_irrefl _ (hfp _ hm)
  rw [hname]
  refine wpAny_pure ⟨plainId_quiet F.plain_max_loop _, codeAny_max_loop_firstH W H hw bt hcmp s₂.heap.objs.size hSf (fresh_in hkeep) _ hn (fun b o e => Heap.get?_push_of_some _ (hkeep b o e)) (W.frame 0 s₂ _ s₂.toks hst (Nat.le_refl _) fun b _ o e => Heap.get?_push_of_some _ e) (Heap.get?_push_size _ rfl) fun v s' hP hm => ?_⟩
  exact hQ v s' hP (Moved.drop_new (tk := s₂.toks) hm (Nat.le_refl _))
theorem max_two_data {a b : Value} {x y : PyData} {as bs : List Addr} {Q : Value → Shared → Prop} (hh : A.handled = none) (ra : Reads s.heap a x as) (rb : Reads s.heap b y bs) (ha : AlikeAll [x, y]) (hu : A.units + 1 + PyData.depthAll [x, y] < cLine)
    (h : ∀ v h' tk cs, (v = a ∨ v = b) → Reads h' v (maxD x [y]) cs → (∀ b o, s.heap.get? b = some o → h'.get? b = some o) → Q v { s with heap := h', toks := tk }) :
    wpAny (model prog w) A (call (.builtin "max") [a, b]) Q E s := by
  have k0 : ∀ c o, s.heap.get? c = some o → (s.heap.push { cls := .type "tuple", data := .seq #[a, b] }).get? c = some o := fun c o e => Heap.get?_push_of_some _ e
  have hT : (s.heap.push { cls := .type "tuple", data := .seq #[a, b] }).IsTuple s.heap.objs.size #[a, b] := ⟨_, Heap.get?_push_size _ rfl, rfl, 0, rfl⟩
  have hr : ReadsAll (s.heap.push { cls := .type "tuple", data := .seq #[a, b] }) (#[a, b] : Array Value).toList [x, y] (as ++ (bs ++ [])) := .cons (Reads.keeps k0 ra) (.cons (Reads.keeps k0 rb) .nil)
  refine call_max_two_walkH (iter_tupleW (A := A.in1) hh hT fun s₂ e W st hfp hw hk => ?_)
  refine ⟨_, _, _, _, _, _, _, (s.heap.push { cls := .type "tuple", data := .seq #[a, b] }), _, rfl, W, st, hfp, Nat.zero_lt_succ 1, hw, hk, cmpIn_gt (s := { s with heap := s.heap.push { cls := .type "tuple", data := .seq #[a, b] } }) (A := A.in1) hr ha (by show A.units + 1 + _ < _; exact hu), fun v s' hP m => ?_⟩
  obtain ⟨h', tk, rfl, hk'⟩ := moved_old (s := { s with heap := s.heap.push { cls := .type "tuple", data := .seq #[a, b] } }) e rfl m
  obtain ⟨cs, r, _, _, _⟩ := readsAll_atA (xs := [x, y]) hr _ v hP
  have e2 := (argBest_fold (fun p q => dataLt q p) PyData.none x [y] 1 (Nat.le_refl _)).2
  have hv : v = a ∨ v = b := by
    have hm : v ∈ [a, b] := by
      have q := List.mem_of_getElem? (l := [a, b]) (by simpa using hP)
      exact q
    simpa using hm
  exact h v h' tk cs hv (Reads.keeps hk' (by unfold maxD; rw [List.take_of_length_le (by simp)] at e2; rw [← e2]; exact r)) fun b o q => hk' b o (k0 b o q)
end
/-! ### the layer's rules -/
section
variable {X : Cx}
/-- each value with what it reads as -/
def DpZ (K : PySem.W.Frag) (H : Hp) (bs : List (V × PyData)) : Prop := ∀ b ∈ bs, Dp K H b.1 b.2
theorem vals_each : ∀ {bs : List (V × PyData)} {us : List Value}, Vals (bs.map (·.1)) us → EachIs (fun v (b : V × PyData) => RelV b.1 v) us bs
  | [], _, .nil => .nil
  | _ :: _, _, .cons r t => .cons r (vals_each t)
theorem each_vals : ∀ {bs : List (V × PyData)} {us : List Value}, EachIs (fun v (b : V × PyData) => RelV b.1 v) us bs → Vals (bs.map (·.1)) us
  | _, _, .nil => .nil
  | _, _, .cons r t => .cons r (each_vals t)
theorem each_reads {pins : List (Addr × Obj)} {σ : L2.St} {H : Hp} {s : Shared} (I : Inv X pins σ H s) : ∀ {bs : List (V × PyData)} {us : List Value}, Vals (bs.map (·.1)) us → DpZ X.K H bs → EachIs (fun v (b : V × PyData) => ∃ as, Reads s.heap v b.2 as) us bs
  | [], _, .nil, _ => .nil
  | b :: _, _, .cons r t, h => .cons (Dp.reads I b.2 b.1 _ (h b List.mem_cons_self) r) (each_reads I t fun c hc => h c (List.mem_cons_of_mem _ hc))
/-- sorted(x), x a list or a tuple of data: a new list, the items by their data -/
def rSortD0 (K : PySem.W.Frag) : List V → Hp → VK → Prop := fun vs H Q => ∃ (a : Addr) (bs : List (V × PyData)), vs = [V.ref a] ∧ (SqL K H a (bs.map (·.1)) ∨ SqT K H a (bs.map (·.1))) ∧ DpZ K H bs ∧
  AllAlike (bs.map (·.2)) ∧ Sortable (bs.map (·.2)) ∧ (∀ b ∈ bs, b.2.depth ≤ 8) ∧
  ∀ p : Addr, H p = none → Q (.ref p) (upd H p (.lst ((bs.mergeSort (dataLe false (·.2))).map (·.1))))
inductive rSortD (K : PySem.W.Frag) (vs : List V) (H : Hp) (Q : VK) : Prop
  | mk (h : rSortD0 K vs H Q)
theorem cr_sortD (hu : X.A.units + 64 < cLine) : CallR X (.builtin "sorted") (rSortD X.K) := by
  intro pins s σ H vs us Q I r h
  obtain ⟨⟨a, bs, rfl, hs, hd, hal, hk, hdep, q⟩⟩ := h
  rw [Vals.ref1 r]
  have main : ∀ its : List Value, Vals (bs.map (·.1)) its → its.length ≤ sizeLine →
      (∀ (E' : Value → Shared → Prop) (Q' : List Value → Shared → Prop), (∀ (h' : Heap) (tk : Nat), (∀ b o, s.heap.get? b = some o → h'.get? b = some o) → Q' its { s with heap := h', toks := tk }) → wpAny (model X.prog X.w) X.A.in1 (collect (.ref a)) Q' E' s) →
      wpAny (model X.prog X.w) X.A (call (.builtin "sorted") [.ref a]) (EP X pins σ Q) X.xe s := by
    intro its rv hz hc
    refine sorted_dataG (R := fun v (b : V × PyData) => RelV b.1 v) (enc := fun b : V × PyData => b.2) hz hc (vals_each rv) (each_reads I rv hd) hal hk (fun b hb => by have := hdep b hb; omega) fun h' tk p out k hp ⟨n, ho⟩ hl he => ?_
    have hlen : ((bs.mergeSort (dataLe false (·.2))).map (·.1)).length ≤ sizeLine := by
      rw [List.length_map, List.length_mergeSort, ← List.length_map (f := fun b : V × PyData => b.1), rv.length]
      exact hz
    exact ⟨.ref p, upd H p (.lst ((bs.mergeSort (dataLe false (·.2))).map (·.1))), I.laidN (t' := tk) k hp (I.hok.gone hp) ⟨hlen, out, n, each_vals he, ho⟩, rfl, q p (I.hok.gone hp)⟩
  rcases hs with hs | hs
  · obtain ⟨its, rv, ⟨o, n, ho, hc, hdi, hdat⟩, hz⟩ := I.list hs
    have hz' : its.length ≤ sizeLine := by rw [← rv.length]; exact hz
    refine main its rv hz' fun E' Q' hq => wpAny_collect_seq a (.inl rfl) ho hc hdat (fun h' k => ?_) (by simpa using hz')
    simpa using hq h' s.toks k
  · obtain ⟨its, rv, ⟨o, ho, hc, n, hdat⟩, hz⟩ := I.tuple hs
    have hz' : its.length ≤ sizeLine := by rw [← rv.length]; exact hz
    refine main its rv hz' fun E' Q' hq => wpAny_collect_seq a (.inr rfl) ho hc hdat (fun h' k => ?_) (by simpa using hz')
    simpa using hq h' s.toks k

theorem minD_mem : ∀ (xs : List PyData) (x : PyData), minD x xs ∈ x :: xs
  | [], x => List.mem_cons_self
  | y :: ys, x => by
    have ih := minD_mem ys (if dataLt y x then y else x)
    show minD (if dataLt y x then y else x) ys ∈ x :: y :: ys
    rcases List.mem_cons.mp ih with e | e
    · rw [e]
      split
      · exact List.mem_cons_of_mem _ List.mem_cons_self
      · exact List.mem_cons_self
    · exact List.mem_cons_of_mem _ (List.mem_cons_of_mem _ e)
theorem maxD_mem : ∀ (xs : List PyData) (x : PyData), maxD x xs ∈ x :: xs
  | [], x => List.mem_cons_self
  | y :: ys, x => by
    have ih := maxD_mem ys (if dataLt x y then y else x)
    show maxD (if dataLt x y then y else x) ys ∈ x :: y :: ys
    rcases List.mem_cons.mp ih with e | e
    · rw [e]
      split
      · exact List.mem_cons_of_mem _ List.mem_cons_self
      · exact List.mem_cons_self
    · exact List.mem_cons_of_mem _ (List.mem_cons_of_mem _ e)
theorem readsAllZ {pins : List (Addr × Obj)} {σ : L2.St} {H : Hp} {s : Shared} (I : Inv X pins σ H s) : ∀ {bs : List (V × PyData)} {us : List Value}, Vals (bs.map (·.1)) us → DpZ X.K H bs → ∃ as, ReadsAll s.heap us (bs.map (·.2)) as
  | [], _, .nil, _ => ⟨_, .nil⟩
  | b :: _, _, .cons r t, h => by
    obtain ⟨as, h1⟩ := Dp.reads I b.2 b.1 _ (h b List.mem_cons_self) r
    obtain ⟨cs, h2⟩ := readsAllZ I t fun c hc => h c (List.mem_cons_of_mem _ hc)
    exact ⟨_, .cons h1 h2⟩
theorem depthAll_le {n : Nat} : ∀ {ds : List PyData}, (∀ d ∈ ds, d.depth ≤ n) → PyData.depthAll ds ≤ n
  | [], _ => Nat.zero_le _
  | d :: ds, h => by
    have h1 := h d List.mem_cons_self
    have h2 := depthAll_le (ds := ds) fun c hc => h c (List.mem_cons_of_mem _ hc)
    show max d.depth (PyData.depthAll ds) ≤ n
    omega
/-- min(x), max(x), x a list or a tuple of data: the item -/
def rBestD (D : PyData → List PyData → PyData) (K : PySem.W.Frag) : List V → Hp → VK → Prop := fun vs H Q => ∃ (a : Addr) (b0 : V × PyData) (bs : List (V × PyData)), vs = [V.ref a] ∧ (SqL K H a ((b0 :: bs).map (·.1)) ∨ SqT K H a ((b0 :: bs).map (·.1))) ∧ DpZ K H (b0 :: bs) ∧
  PySem.W.AlikeAll ((b0 :: bs).map (·.2)) ∧ (∀ b ∈ b0 :: bs, b.2.depth ≤ 8) ∧ ∀ b ∈ b0 :: bs, b.2 = D b0.2 (bs.map (·.2)) → Q b.1 H
/-- min(x, y), max(x, y) of data -/
def rBest2D (D : PyData → List PyData → PyData) (K : PySem.W.Frag) : List V → Hp → VK → Prop := fun vs H Q => ∃ (x y : V) (d e : PyData), vs = [x, y] ∧ Dp K H x d ∧ Dp K H y e ∧ PySem.W.AlikeAll [d, e] ∧ d.depth ≤ 8 ∧ e.depth ≤ 8 ∧
  (D d [e] = d → Q x H) ∧ (D d [e] = e → Q y H)

theorem cr_minD (hc : X.calm = true) (hu : X.A.units + 64 < cLine) : CallR X (.builtin "min") (rBestD minD X.K) := by
  intro pins s σ H vs us Q I r h
  obtain ⟨a, b0, bs, rfl, hs, hd, hal, hdep, q⟩ := h
  rw [Vals.ref1 r]
  have hda : PyData.depthAll (b0.2 :: bs.map (·.2)) ≤ 8 := depthAll_le fun d hd' => by
    obtain ⟨b, hb, rfl⟩ := List.mem_map.mp (show d ∈ (b0 :: bs).map (·.2) from hd')
    exact hdep b hb
  have hmem := minD_mem (bs.map (·.2)) b0.2
  have fin : ∀ (its : List Value), Vals ((b0 :: bs).map (·.1)) its → ∀ (i : Nat) (v : Value) (h' : Heap) (tk : Nat) (cs : List Addr), its.toArray[i]? = some v → Reads h' v (minD b0.2 (bs.map (·.2))) cs → (∀ b o, s.heap.get? b = some o → h'.get? b = some o) → EP X pins σ Q v { s with heap := h', toks := tk } := by
    intro its rv i v h' tk cs hi hr k
    have hi' : its[i]? = some v := by simpa using hi
    have hlt : i < (b0 :: bs).length := by
      have h1 := (List.getElem?_eq_some_iff.mp hi').1
      have h2 := rv.length
      rw [List.length_map] at h2
      omega
    have hb : (b0 :: bs)[i]? = some (b0 :: bs)[i] := List.getElem?_eq_getElem hlt
    have hbm : (b0 :: bs)[i] ∈ b0 :: bs := List.getElem_mem hlt
    obtain ⟨v', hv', rr⟩ := rv.get (i := i) (x := ((b0 :: bs)[i]).1) (by rw [List.getElem?_map, hb]; rfl)
    rw [hi'] at hv'
    cases hv'
    obtain ⟨as, r1⟩ := Dp.reads I _ _ v (hd _ hbm) rr
    have e := alike_unique _ _ v _ _ (hal.1 _ (List.mem_map.mpr ⟨_, hbm, rfl⟩) _ hmem) (Reads.keeps k r1) hr
    exact ⟨_, H, I.kept k, rr, q _ hbm e⟩
  rcases hs with hs | hs
  · obtain ⟨its, rv, hl, _⟩ := I.list hs
    obtain ⟨as, hr⟩ := readsAllZ I rv hd
    exact min_list_data (vs := its.toArray) (I.ok.hd hc) hl.isList (by simpa using hr) hal (by simp only [List.map] at *; omega) (fin its rv)
  · obtain ⟨its, rv, hl, _⟩ := I.tuple hs
    obtain ⟨as, hr⟩ := readsAllZ I rv hd
    exact min_tuple_data (vs := its.toArray) (I.ok.hd hc) hl (by simpa using hr) hal (by simp only [List.map] at *; omega) (fin its rv)
theorem cr_min2D (hc : X.calm = true) (hu : X.A.units + 64 < cLine) : CallR X (.builtin "min") (rBest2D minD X.K) := by
  intro pins s σ H vs us Q I r h
  obtain ⟨x, y, d, e, rfl, hx, hy, hal, hd, he, q1, q2⟩ := h
  obtain ⟨u, w', rfl, ru, rw'⟩ := vals2 r
  obtain ⟨as, r1⟩ := Dp.reads I d x u hx ru
  obtain ⟨bs, r2⟩ := Dp.reads I e y w' hy rw'
  have hda : PyData.depthAll [d, e] ≤ 8 := depthAll_le fun c hc' => by
    rcases List.mem_cons.mp hc' with rfl | hc'
    · exact hd
    · rw [List.mem_singleton.mp hc']
      exact he
  refine min_two_data (I.ok.hd hc) r1 r2 hal (by omega) fun v h' tk cs hv hr k => ?_
  have hm := minD_mem [e] d
  rcases hv with rfl | rfl
  · have z := alike_unique _ _ v _ _ (hal.1 d List.mem_cons_self _ hm) (Reads.keeps k r1) hr
    exact ⟨x, H, I.kept k, ru, q1 z.symm⟩
  · have z := alike_unique _ _ v _ _ (hal.1 e (List.mem_cons_of_mem _ List.mem_cons_self) _ hm) (Reads.keeps k r2) hr
    exact ⟨y, H, I.kept k, rw', q2 z.symm⟩

theorem cr_maxD (hc : X.calm = true) (hu : X.A.units + 64 < cLine) : CallR X (.builtin "max") (rBestD maxD X.K) := by
  intro pins s σ H vs us Q I r h
  obtain ⟨a, b0, bs, rfl, hs, hd, hal, hdep, q⟩ := h
  rw [Vals.ref1 r]
  have hda : PyData.depthAll (b0.2 :: bs.map (·.2)) ≤ 8 := depthAll_le fun d hd' => by
    obtain ⟨b, hb, rfl⟩ := List.mem_map.mp (show d ∈ (b0 :: bs).map (·.2) from hd')
    exact hdep b hb
  have hmem := maxD_mem (bs.map (·.2)) b0.2
  have fin : ∀ (its : List Value), Vals ((b0 :: bs).map (·.1)) its → ∀ (i : Nat) (v : Value) (h' : Heap) (tk : Nat) (cs : List Addr), its.toArray[i]? = some v → Reads h' v (maxD b0.2 (bs.map (·.2))) cs → (∀ b o, s.heap.get? b = some o → h'.get? b = some o) → EP X pins σ Q v { s with heap := h', toks := tk } := by
    intro its rv i v h' tk cs hi hr k
    have hi' : its[i]? = some v := by simpa using hi
    have hlt : i < (b0 :: bs).length := by
      have h1 := (List.getElem?_eq_some_iff.mp hi').1
      have h2 := rv.length
      rw [List.length_map] at h2
      omega
    have hb : (b0 :: bs)[i]? = some (b0 :: bs)[i] := List.getElem?_eq_getElem hlt
    have hbm : (b0 :: bs)[i] ∈ b0 :: bs := List.getElem_mem hlt
    obtain ⟨v', hv', rr⟩ := rv.get (i := i) (x := ((b0 :: bs)[i]).1) (by rw [List.getElem?_map, hb]; rfl)
    rw [hi'] at hv'
    cases hv'
    obtain ⟨as, r1⟩ := Dp.reads I _ _ v (hd _ hbm) rr
    have e := alike_unique _ _ v _ _ (hal.1 _ (List.mem_map.mpr ⟨_, hbm, rfl⟩) _ hmem) (Reads.keeps k r1) hr
    exact ⟨_, H, I.kept k, rr, q _ hbm e⟩
  rcases hs with hs | hs
  · obtain ⟨its, rv, hl, _⟩ := I.list hs
    obtain ⟨as, hr⟩ := readsAllZ I rv hd
    exact max_list_data (vs := its.toArray) (I.ok.hd hc) hl.isList (by simpa using hr) hal (by simp only [List.map] at *; omega) (fin its rv)
  · obtain ⟨its, rv, hl, _⟩ := I.tuple hs
    obtain ⟨as, hr⟩ := readsAllZ I rv hd
    exact max_tuple_data (vs := its.toArray) (I.ok.hd hc) hl (by simpa using hr) hal (by simp only [List.map] at *; omega) (fin its rv)
theorem cr_max2D (hc : X.calm = true) (hu : X.A.units + 64 < cLine) : CallR X (.builtin "max") (rBest2D maxD X.K) := by
  intro pins s σ H vs us Q I r h
  obtain ⟨x, y, d, e, rfl, hx, hy, hal, hd, he, q1, q2⟩ := h
  obtain ⟨u, w', rfl, ru, rw'⟩ := vals2 r
  obtain ⟨as, r1⟩ := Dp.reads I d x u hx ru
  obtain ⟨bs, r2⟩ := Dp.reads I e y w' hy rw'
  have hda : PyData.depthAll [d, e] ≤ 8 := depthAll_le fun c hc' => by
    rcases List.mem_cons.mp hc' with rfl | hc'
    · exact hd
    · rw [List.mem_singleton.mp hc']
      exact he
  refine max_two_data (I.ok.hd hc) r1 r2 hal (by omega) fun v h' tk cs hv hr k => ?_
  have hm := maxD_mem [e] d
  rcases hv with rfl | rfl
  · have z := alike_unique _ _ v _ _ (hal.1 d List.mem_cons_self _ hm) (Reads.keeps k r1) hr
    exact ⟨x, H, I.kept k, ru, q1 z.symm⟩
  · have z := alike_unique _ _ v _ _ (hal.1 e (List.mem_cons_of_mem _ List.mem_cons_self) _ hm) (Reads.keeps k r2) hr
    exact ⟨y, H, I.kept k, rw', q2 z.symm⟩
end
end HD
/-! tuples of tuples as data; what stays of them -/
namespace HD
open PySem PySem.W PyProof.Rows L2
/-- a tuple, a tuple that is known -/
def IsT : HO → Prop
  | .tup _ => True
  | .frz _ (.tup _) => True
  | _ => False
/-- the tuples stay -/
def Tm (H H' : Hp) : Prop := ∀ a u, H a = some u → IsT u → H' a = some u
theorem Tm.refl (H : Hp) : Tm H H := fun _ _ h _ => h
theorem Tm.trans {H H1 H2 : Hp} (a : Tm H H1) (b : Tm H1 H2) : Tm H H2 := fun c u h t => b c u (a c u h t) t
theorem Tm.of {H H' : Hp} (e : Same H H') : Tm H H' := fun a u h _ => e a u h
theorem Tm.upd {H : Hp} {p : Addr} {o : HO} (h : ∀ u, H p = some u → ¬ IsT u) : Tm H (L2.upd H p o) := fun a u r t => by
  have ne : a ≠ p := fun e => h u (e ▸ r) t
  rw [upd_ne ne]
  exact r
theorem Tm.new {H : Hp} {p : Addr} {o : HO} (h : H p = none) : Tm H (L2.upd H p o) := Tm.upd fun u e => by
  rw [h] at e
  cases e
theorem Tm.lst {H : Hp} {p : Addr} {ys : List V} {o : HO} (h : H p = some (.lst ys)) : Tm H (L2.upd H p o) := Tm.upd fun u e => by
  rw [h] at e
  cases e
  exact fun z => z
theorem Tm.dK {H : Hp} {p : Addr} {ys : List (Key × V)} {o : HO} (h : H p = some (.dK ys)) : Tm H (L2.upd H p o) := Tm.upd fun u e => by
  rw [h] at e
  cases e
  exact fun z => z
theorem Tm.dT {H : Hp} {p : Addr} {ys : List (List Key × V)} {o : HO} (h : H p = some (.dT ys)) : Tm H (L2.upd H p o) := Tm.upd fun u e => by
  rw [h] at e
  cases e
  exact fun z => z
theorem Tm.sqT {K : PySem.W.Frag} {H H' : Hp} (e : Tm H H') {a : Addr} {xs : List V} (h : SqT K H a xs) : SqT K H' a xs := by
  rcases h with (h | ⟨o, h⟩) | h
  · exact .inl (.inl (e _ _ h trivial))
  · exact .inl (.inr ⟨o, e _ _ h trivial⟩)
  · exact .inr h
/-- at a a tuple whose own methods may be asked -/
def FT (H : Hp) (a : Addr) (xs : List V) : Prop := ∃ o : Obj, H a = some (.frz o (.tup xs)) ∧ o.cls = .type "tuple" ∧ o.dict = none
theorem FT.sqT {K : PySem.W.Frag} {H : Hp} {a : Addr} {xs : List V} (h : FT H a xs) : SqT K H a xs := by
  obtain ⟨o, h, _⟩ := h
  exact .inl (.inr ⟨o, h⟩)
theorem FT.mono {H H' : Hp} {a : Addr} {xs : List V} (e : Tm H H') (h : FT H a xs) : FT H' a xs := by
  obtain ⟨o, h, c, d⟩ := h
  exact ⟨o, e _ _ h trivial, c, d⟩
section
variable {X : Cx} {es : List Expr} {t : TA} {pos : Pos}
/-- (a, b, ..), known -/
def tTupF (t : TA) : TE := fun σ H Q => t σ H fun xs H1 => xs.length ≤ sizeLine ∧ ∀ p (o : Obj), H1 p = none → o.cls = .type "tuple" → o.dict = none → Q (.ref p) (L2.upd H1 p (.frz o (.tup xs)))
theorem pe_tupF {x1} (h : PA X es t) : PE X (.Tuple es x1 pos) (tTupF t) := by
  refine ⟨fun pins s σ H Q I hq => ?_⟩
  refine wpAny_Tuple_spliced (thn (h.run pos pins s σ H _ I hq) fun us s1 ⟨xs, H1, I1, r, z, q⟩ => ⟨by rw [← r.length]; exact z, ?_⟩)
  have hf : H1 s1.heap.objs.size = none := I1.hok.fresh (Nat.le_refl _)
  exact ⟨.ref s1.heap.objs.size, L2.upd H1 s1.heap.objs.size (.frz _ (.tup xs)), I1.laid (t' := s1.toks) (fun b u e => Heap.get?_push_of_some _ e) (Nat.le_refl _) ⟨Heap.get?_push_size _ rfl, z, us, r, ⟨_, Heap.get?_push_size _ rfl, rfl, _, rfl⟩⟩, rfl, q _ _ hf rfl rfl⟩
/-- tuple(a list), known -/
theorem call_tuple_ofF : CallR X (.type "tuple") (fun xs H Q => ∃ p ys, xs = [.ref p] ∧ SqL X.K H p ys ∧ ∀ l (o : Obj), H l = none → o.cls = .type "tuple" → o.dict = none → Q (.ref l) (L2.upd H l (.frz o (.tup ys)))) := by
  intro pins s σ H xs us Q I r h
  obtain ⟨p, ys, rfl, hq, q⟩ := h
  obtain ⟨u, rfl, rx⟩ := vals1 r
  cases rx
  obtain ⟨its, r', pl, hz⟩ := I.list hq
  have hlen := r'.length
  refine call_tuple_list pl.isList (fun h' kp => ?_) (by simp only [List.size_toArray] <;> omega)
  have I1 : Inv X pins σ H { s with heap := h' } := I.kept (t' := s.toks) kp
  have I2 : Inv X pins σ (L2.upd H h'.objs.size (.frz _ (.tup ys))) { s with heap := h'.push { cls := .type "tuple", data := .seq its.toArray } } :=
    I1.laid (t' := s.toks) (fun b o e => Heap.get?_push_of_some _ e) (Nat.le_refl _) (show ObjOk X.prog X.w _ _ _ (.frz _ (.tup ys)) from ⟨Heap.get?_push_size _ rfl, hz, its, r', IsTup.new _ _⟩)
  exact ⟨.ref h'.objs.size, _, I2, rfl, q _ _ (I1.hok.fresh (Nat.le_refl _)) rfl rfl⟩
variable {o e : Expr} {to : TE} {name : Str} {apos cpos : Pos} {T id : String} {r : V → List V → Hp → VK → Prop}
/-- the object is known, it is a T without a dict -/
def tBMF (T : String) (r : V → List V → Hp → VK → Prop) (to : TE) (t : TA) : TE := fun σ H Q => to σ H fun x H1 => (∃ (p : Addr) (ob : Obj) (u : HO), x = .ref p ∧ H1 p = some (.frz ob u) ∧ ob.cls = .type T ∧ ob.dict = none) ∧ t σ H1 fun xs H2 => r x xs H2 Q
theorem pe_bmF (pa : PlainAttrs T) (slot : Slot T name id) (hty : typeOf (.builtin id) = pure (.type "method_descriptor")) (hm : MtR X id r) (ho : PE X o to) (ha : PA X (e :: es) t)
    (hbase : attributeBase o name X.env (eval o X.env) = eval o X.env := by rfl)
    (hfew : ((backTo cpos (starEach (e :: es) X.env)).all (fun x => !x.1) && (backToKw cpos (keywordEach [] X.env)).all (fun x => x.1.isSome)
      && decide ((e :: es).length + ([] : List Keyword).length + (if ([] : List Keyword).isEmpty then 0 else 1) < 30)) = true := by rfl)
    (hline : (apos.endLine == cpos.line) = true := by rfl) (hs : starEach (e :: es) X.env = (false, eval e X.env) :: starEach es X.env := by rfl) (hplain : (backTo cpos (starEach es X.env)).any (·.1) = false := by rfl) :
    PE X (.Call (.Attribute o name apos) (e :: es) [] cpos) (tBMF T r to t) := by
  refine ⟨fun pins s σ H Q I h => ?_⟩
  refine wpAny_Call_method_late hbase hfew hline rfl (thn (ho.run pins s σ H _ I h) fun v s1 ⟨x, H1, I1, r1, ⟨p, ob, u, ex, hp, hc, hd⟩, q1⟩ => ?_)
  subst ex
  cases r1
  have hget : s1.heap.get? p = some ob := (I1.hok p _ hp).1
  refine ⟨T, id, pa, slot, hty, ⟨ob, hget, hc⟩, fun a e => by cases e; exact ⟨ob, hget, hd⟩, ?_⟩
  have hA := ha.run cpos pins s1 σ H1 _ I1 q1
  rw [hs] at hA ⊢
  refine Calls.callWith_builtin (by show (false || (backTo cpos (starEach es X.env)).any (·.1)) = false; rw [hplain] <;> rfl) (Calls.evalArgs_plain ?_)
  exact thn hA fun us s2 ⟨vs, H2, I2, r2, q2⟩ => hm pins s2 σ H2 (.ref p) vs (.ref p) us Q I2 rfl r2 q2
end
theorem same_new {H : Hp} {p : Addr} {o : HO} (h : H p = none) : Same H (L2.upd H p o) := fun b u e => by
  rw [upd_ne (ne_of_none e h)]
  exact e
theorem _root_.L2.Same.put {H0 H : Hp} {D : Addr} {o : HO} (h : H0 D = none) (s : Same H0 H) : Same H0 (L2.upd H D o) := fun b u e => by
  rw [upd_ne (ne_of_none e h)]
  exact s b u e
theorem u65 {k : Nat} {A : Around} (hr : Room k A) : A.units + 65 < cLine := by
  have := hr.un
  omega
/-! ### the signs of a text -/
def signsV (z : Str) : List Str := z.cps.toList.map fun c => ⟨#[c]⟩
theorem signs_vals : ∀ {us : List Value} {cs : List Nat}, us.length = cs.length → (∀ (j : Nat) (v : Value), us[j]? = some v → ∃ c u, cs[j]? = some c ∧ v = .str ⟨#[c]⟩ u) → Vals ((cs.map fun c => (⟨#[c]⟩ : Str)).map V.str) us
  | [], [], _, _ => .nil
  | u :: us, c :: cs, hl, h => by
    obtain ⟨c', t, e1, e2⟩ := h 0 u rfl
    have e1' : c = c' := Option.some.inj e1
    subst e1' e2
    exact .cons ⟨t, rfl⟩ (signs_vals (by simpa using hl) fun j v e => by
      obtain ⟨c2, t2, e3, e4⟩ := h (j + 1) v (by simpa using e)
      exact ⟨c2, t2, by simpa using e3, e4⟩)
  | [], _ :: _, hl, _ => by simp at hl
  | _ :: _, [], hl, _ => by simp at hl
theorem call_list_signs {X : Cx} (hc : X.calm = true) : CallR X (.type "list") (fun xs H Q => ∃ z : Str, xs = [.str z] ∧ z.length ≤ 1000 ∧ ∀ p, H p = none → Q (.ref p) (L2.upd H p (.lst ((signsV z).map V.str)))) := by
  intro pins s σ H xs us Q I r h
  obtain ⟨z, rfl, hz, q⟩ := h
  obtain ⟨u, rfl, rx⟩ := vals1 r
  obtain ⟨t, rfl⟩ := (show ∃ t, u = Value.str z t from rx)
  have hz' : z.cps.size ≤ 1000 := hz
  refine call_list_str (I.ok.hd hc) z t (fun h' tk acc c' kp e it => ?_) (Nat.le_trans hz' (by decide))
  have hv : Vals ((signsV z).map V.str) acc.toList := signs_vals (by rw [Array.length_toList, it.1]; simp) fun j v e => by
    obtain ⟨c, u, e1, e2⟩ := it.2 j v (by rw [← Array.getElem?_toList]; exact e)
    exact ⟨c, u, by rw [Array.getElem?_toList]; exact e1, e2⟩
  refine ⟨.ref s.heap.objs.size, _, I.laid (t' := tk) kp (Nat.le_refl _) (show ObjOk X.prog X.w _ h' _ (.lst ((signsV z).map V.str)) from ⟨?_, acc.toList, c', hv, by rw [Array.toArray_toList]; exact e⟩), rfl, q _ (I.hok.fresh (Nat.le_refl _))⟩
  unfold signsV
  rw [List.length_map, List.length_map, Array.length_toList]
  exact Nat.le_trans hz' (by decide)
/-! ### a rest in between -/
section
variable {X : Cx}
def tMidT (t : TT) : TT := fun σ H Q => ∃ R : Bool → Hp → Prop, t σ H R ∧ ∀ b H', R b H' → Q b H'
theorem pt_mid {e : Expr} {t : TT} (h : PT X e t) : PT X e (tMidT t) := ⟨fun pins s σ H _ I z => by
  obtain ⟨R, y, q⟩ := z
  exact thn (h.run pins s σ H R I y) fun b _ ⟨H1, J, r⟩ => ⟨H1, J, q b H1 r⟩⟩
def tMid (t : TE) : TE := fun σ H Q => ∃ R : VK, t σ H R ∧ ∀ v H', R v H' → Q v H'
theorem pe_mid {e : Expr} {t : TE} (h : PE X e t) : PE X e (tMid t) := ⟨fun pins s σ H _ I z => by
  obtain ⟨R, y, q⟩ := z
  exact thn (h.run pins s σ H R I y) fun _ _ ⟨v, H1, J, rv, r⟩ => ⟨v, H1, J, rv, q v H1 r⟩⟩
def tMidS (t : TS) : TS := fun D σ H => ∃ N : L2.St → Hp → Prop, t { D with nx := N } σ H ∧ ∀ σ' H', N σ' H' → D.nx σ' H'
theorem ps_mid {st : Stmt} {t : TS} (h : PS X st t) : PS X st (tMidS t) := ⟨fun pins s σ H D I z => by
  obtain ⟨N, y, q⟩ := z
  refine thn (h.run pins s σ H _ I y) fun f s' r => ?_
  cases f with
  | next => obtain ⟨σ', H', J, n⟩ := r; exact ⟨σ', H', J, q σ' H' n⟩
  | brk => exact r
  | cont => exact r
  | ret u => exact r⟩
end
/-- texts, one below the other -/
def rLtS : R2 := fun x y H Q => ∃ i j : Str, x = .str i ∧ y = .str j ∧ Q (.bl (decide (i.cps.toList < j.cps.toList))) H
mutual
/-- data without lists -/
inductive Td (K : PySem.W.Frag) (H : Hp) : V → PyData → Prop
  | non : Td K H .non .none
  | bl (b : Bool) : Td K H (.bl b) (.bool b)
  | int (i : Int) : Td K H (.int i) (.int i)
  | str (x : Str) : Td K H (.str x) (.str x)
  | tup {a : Addr} {xs : List V} {ds : List PyData} : SqT K H a xs → TdAll K H xs ds → Td K H (.ref a) (.tuple ds)
inductive TdAll (K : PySem.W.Frag) (H : Hp) : List V → List PyData → Prop
  | nil : TdAll K H [] []
  | cons {v : V} {vs : List V} {d : PyData} {ds : List PyData} : Td K H v d → TdAll K H vs ds → TdAll K H (v :: vs) (d :: ds)
end
section
variable {K : PySem.W.Frag} {H H' : Hp}
mutual
theorem Td.dp : ∀ {d : PyData} {v : V}, Td K H v d → Dp K H v d
  | _, _, .non => .non
  | _, _, .bl b => .bl b
  | _, _, .int i => .int i
  | _, _, .str x => .str x
  | _, _, .tup h t => .tup h (TdAll.dp t)
theorem TdAll.dp : ∀ {ds : List PyData} {vs : List V}, TdAll K H vs ds → DpAll K H vs ds
  | _, _, .nil => .nil
  | _, _, .cons h t => .cons (Td.dp h) (TdAll.dp t)
end
mutual
theorem Td.mono (e : Tm H H') : ∀ {d : PyData} {v : V}, Td K H v d → Td K H' v d
  | _, _, .non => .non
  | _, _, .bl b => .bl b
  | _, _, .int i => .int i
  | _, _, .str x => .str x
  | _, _, .tup h t => .tup (e.sqT h) (TdAll.mono e t)
theorem TdAll.mono (e : Tm H H') : ∀ {ds : List PyData} {vs : List V}, TdAll K H vs ds → TdAll K H' vs ds
  | _, _, .nil => .nil
  | _, _, .cons h t => .cons (Td.mono e h) (TdAll.mono e t)
end
theorem TdAll.length : ∀ {vs : List V} {ds : List PyData}, TdAll K H vs ds → vs.length = ds.length
  | _, _, .nil => rfl
  | _, _, .cons _ t => congrArg (· + 1) (TdAll.length t)
theorem TdAll.get : ∀ {vs : List V} {ds : List PyData} {i : Nat} {v : V}, TdAll K H vs ds → vs[i]? = some v → ∃ d, ds[i]? = some d ∧ Td K H v d
  | _, _, _, _, .nil, e => by simp at e
  | _, _, 0, _, .cons h _, e => by
    have e := Option.some.inj (show some _ = some _ from e)
    subst e
    exact ⟨_, rfl, h⟩
  | _, _, i + 1, _, .cons _ t, e => TdAll.get (i := i) t (by simpa using e)
theorem TdAll.get2 : ∀ {vs : List V} {ds : List PyData} {i : Nat} {d : PyData}, TdAll K H vs ds → ds[i]? = some d → ∃ v, vs[i]? = some v ∧ Td K H v d
  | _, _, _, _, .nil, e => by simp at e
  | _, _, 0, _, .cons h _, e => by
    have e := Option.some.inj (show some _ = some _ from e)
    subst e
    exact ⟨_, rfl, h⟩
  | _, _, i + 1, _, .cons _ t, e => TdAll.get2 (i := i) t (by simpa using e)
theorem TdAll.append : ∀ {vs ws : List V} {ds es : List PyData}, TdAll K H vs ds → TdAll K H ws es → TdAll K H (vs ++ ws) (ds ++ es)
  | _, _, _, _, .nil, h => h
  | _, _, _, _, .cons h t, q => .cons h (TdAll.append t q)
theorem TdAll.strs : ∀ (xs : List Str), TdAll K H (xs.map V.str) (xs.map .str)
  | [] => .nil
  | x :: xs => .cons (.str x) (TdAll.strs xs)
theorem TdAll.strs_inv : ∀ {xs : List Str} {vs : List V}, TdAll K H vs (xs.map .str) → vs = xs.map V.str
  | [], _, .nil => rfl
  | x :: xs, _, .cons h t => by
    cases h
    rw [TdAll.strs_inv t]
    rfl
theorem Td.str_inv {x : Str} {v : V} (h : Td K H v (.str x)) : v = .str x := by
  cases h
  rfl
theorem Td.int_inv {x : Int} {v : V} (h : Td K H v (.int x)) : v = .int x := by
  cases h
  rfl
theorem Td.tup_inv {ds : List PyData} {v : V} (h : Td K H v (.tuple ds)) : ∃ a xs, v = .ref a ∧ SqT K H a xs ∧ TdAll K H xs ds := by
  cases h with
  | tup h t => exact ⟨_, _, rfl, h, t⟩
theorem TdAll.nil_inv {vs : List V} (h : TdAll K H vs []) : vs = [] := by
  cases h
  rfl
theorem TdAll.cons_inv {vs : List V} {d : PyData} {ds : List PyData} (h : TdAll K H vs (d :: ds)) : ∃ v ws, vs = v :: ws ∧ Td K H v d ∧ TdAll K H ws ds := by
  cases h with
  | cons h t => exact ⟨_, _, rfl, h, t⟩
/-- a pair -/
theorem Td.pair_inv {d e : PyData} {v : V} (h : Td K H v (.tuple [d, e])) : ∃ a x y, v = .ref a ∧ SqT K H a [x, y] ∧ Td K H x d ∧ Td K H y e := by
  obtain ⟨a, xs, rfl, hs, h1⟩ := h.tup_inv
  obtain ⟨x, ws, rfl, hx, h2⟩ := h1.cons_inv
  obtain ⟨y, zs, rfl, hy, h3⟩ := h2.cons_inv
  rw [h3.nil_inv] at hs
  exact ⟨a, x, y, rfl, hs, hx, hy⟩
/-- a tuple of texts -/
theorem Td.strs_inv {xs : List Str} {v : V} (h : Td K H v (.tuple (xs.map .str))) : ∃ a, v = .ref a ∧ SqT K H a (xs.map V.str) := by
  obtain ⟨a, ys, rfl, hs, t⟩ := h.tup_inv
  rw [t.strs_inv] at hs
  exact ⟨a, rfl, hs⟩
theorem tdAll_of {ds : List PyData} : ∀ {vs : List V}, vs.length = ds.length → (∀ (i : Nat) (v : V) (d : PyData), vs[i]? = some v → ds[i]? = some d → Td K H v d) → TdAll K H vs ds := by
  induction ds with
  | nil =>
    intro vs hl _
    rw [List.length_eq_zero_iff.mp hl]
    exact .nil
  | cons d ds ih =>
    intro vs hl h
    cases vs with
    | nil => simp at hl
    | cons v vs => exact .cons (h 0 v d rfl rfl) (ih (by simpa using hl) fun i v d h1 h2 => h (i + 1) v d (by simpa using h1) (by simpa using h2))
end
/-! ### walks of comprehensions, the body of any form -/
section
variable {K : PySem.W.Frag} {a : Addr} {xs : List V} {H0 : Hp} {Qd : Hp → Prop}
theorem itl_by {B : V → Hp → (Hp → Prop) → Prop} (Pv : Nat → Hp → Prop) (h0 : Pv 0 H0) (hl : ∀ i H, i ≤ xs.length → Pv i H → SqL K H a xs) (hs : ∀ i x H, xs[i]? = some x → Pv i H → B x H (Pv (i + 1))) (hd : ∀ H, Pv xs.length H → Qd H) :
    ∃ W : Nat → Nat → Hp → Prop, (∃ m, W 0 m H0) ∧ ∀ i m H, W i m H → ((Itl K a).stop i H ∧ Qd H) ∨ ((Itl K a).go i H ∧ ∃ Nx : Hp → Prop, (∀ H', Nx H' → ∃ m', m' < m ∧ W (i + 1) m' H') ∧ ∀ x H', (Itl K a).yld i H x H' → B x H' Nx) := by
  refine ⟨fun i m H => m = xs.length - i ∧ i ≤ xs.length ∧ Pv i H, ⟨xs.length, by simp, Nat.zero_le _, h0⟩, ?_⟩
  rintro i m H ⟨rfl, hi, p⟩
  have q := hl i H hi p
  by_cases hlt : i < xs.length
  · refine .inr ⟨⟨xs, xs[i], q, by simp [hlt]⟩, Pv (i + 1), fun H' p' => ⟨xs.length - (i + 1), by omega, rfl, hlt, p'⟩, fun x H' y => ?_⟩
    obtain ⟨e, y⟩ := y
    subst e
    exact hs i x _ (y xs q) p
  · have e : i = xs.length := by omega
    subst e
    exact .inl ⟨⟨xs, q, Nat.le_refl _⟩, hd H p⟩
theorem itt_by {B : V → Hp → (Hp → Prop) → Prop} (Pv : Nat → Hp → Prop) (h0 : Pv 0 H0) (hl : ∀ i H, i ≤ xs.length → Pv i H → SqT K H a xs) (hs : ∀ i x H, xs[i]? = some x → Pv i H → B x H (Pv (i + 1))) (hd : ∀ H, Pv xs.length H → Qd H) :
    ∃ W : Nat → Nat → Hp → Prop, (∃ m, W 0 m H0) ∧ ∀ i m H, W i m H → ((Itt K a).stop i H ∧ Qd H) ∨ ((Itt K a).go i H ∧ ∃ Nx : Hp → Prop, (∀ H', Nx H' → ∃ m', m' < m ∧ W (i + 1) m' H') ∧ ∀ x H', (Itt K a).yld i H x H' → B x H' Nx) := by
  refine ⟨fun i m H => m = xs.length - i ∧ i ≤ xs.length ∧ Pv i H, ⟨xs.length, by simp, Nat.zero_le _, h0⟩, ?_⟩
  rintro i m H ⟨rfl, hi, p⟩
  have q := hl i H hi p
  by_cases hlt : i < xs.length
  · refine .inr ⟨⟨xs, xs[i], q, by simp [hlt]⟩, Pv (i + 1), fun H' p' => ⟨xs.length - (i + 1), by omega, rfl, hlt, p'⟩, fun x H' y => ?_⟩
    obtain ⟨e, y⟩ := y
    subst e
    exact hs i x _ (y xs q) p
  · have e : i = xs.length := by omega
    subst e
    exact .inl ⟨⟨xs, q, Nat.le_refl _⟩, hd H p⟩
theorem itr_by {lo : Int} {n : Nat} {B : V → Hp → (Hp → Prop) → Prop} (Pv : Nat → Hp → Prop) (h0 : Pv 0 H0) (hs : ∀ (i : Nat) H, i < n → Pv i H → B (.int (lo + i)) H (Pv (i + 1))) (hd : ∀ H, Pv n H → Qd H) :
    ∃ W : Nat → Nat → Hp → Prop, (∃ m, W 0 m H0) ∧ ∀ i m H, W i m H → ((Itr lo n).stop i H ∧ Qd H) ∨ ((Itr lo n).go i H ∧ ∃ Nx : Hp → Prop, (∀ H', Nx H' → ∃ m', m' < m ∧ W (i + 1) m' H') ∧ ∀ x H', (Itr lo n).yld i H x H' → B x H' Nx) := by
  refine ⟨fun i m H => m = n - i ∧ i ≤ n ∧ Pv i H, ⟨n, by simp, Nat.zero_le _, h0⟩, ?_⟩
  rintro i m H ⟨rfl, hi, p⟩
  by_cases hlt : i < n
  · refine .inr ⟨hlt, Pv (i + 1), fun H' p' => ⟨n - (i + 1), by omega, rfl, hlt, p'⟩, fun x H' y => ?_⟩
    obtain ⟨e, y⟩ := y
    subst e y
    exact hs i _ hlt p
  · have e : i = n := by omega
    subst e
    exact .inl ⟨Nat.le_refl _, hd H p⟩
end
/-! ### texts in order -/
/-- as Python compares texts -/
def leS (a b : Str) : Bool := decide (a.cps.toList ≤ b.cps.toList)
def ltS (a b : Str) : Bool := decide (a.cps.toList < b.cps.toList)
def sortS (xs : List Str) : List Str := xs.mergeSort leS
theorem alike_strs : ∀ xs ys : List Str, alikeAll (xs.map .str) (ys.map .str) = true
  | [], _ => by simp [alikeAll]
  | _ :: _, [] => by simp [alikeAll]
  | x :: xs, y :: ys => by
    have ih := alike_strs xs ys
    simp only [List.map_cons, alikeAll, alike, ih, Bool.and_self]
theorem sortS_perm (xs : List Str) : (sortS xs).Perm xs := List.mergeSort_perm xs leS
theorem sortS_len (xs : List Str) : (sortS xs).length = xs.length := List.length_mergeSort xs
/-- the layer's sorted items of texts -/
theorem sort_strs (xs : List Str) : (((xs.map fun x => (V.str x, PyData.str x)).mergeSort (dataLe false (·.2))).map (·.1)) = (sortS xs).map V.str := by
  have e : (xs.map fun x => (V.str x, PyData.str x)).mergeSort (dataLe false (·.2)) = (sortS xs).map fun x => (V.str x, PyData.str x) := by
    unfold sortS
    refine (List.map_mergeSort (f := fun x => (V.str x, PyData.str x)) ?_).symm
    intro a _ b _
    have := congrFun (congrFun (dataLe_str (β := Str) fun x => x) a) b
    exact this.symm
  rw [e, List.map_map]
  rfl
theorem sortD_strs {K : PySem.W.Frag} {H : Hp} {a : Addr} {xs : List Str} {Q : VK} (hs : SqL K H a (xs.map V.str) ∨ SqT K H a (xs.map V.str)) (q : ∀ p, H p = none → Q (.ref p) (L2.upd H p (.lst ((sortS xs).map V.str)))) : rSortD K [.ref a] H Q := by
  refine ⟨⟨a, xs.map fun x => (V.str x, PyData.str x), rfl, ?_, ?_, ?_, ?_, ?_, fun p hp => ?_⟩⟩
  · rw [List.map_map]
    exact hs
  · intro b hb
    obtain ⟨x, _, rfl⟩ := List.mem_map.mp hb
    exact .str x
  · rw [List.map_map]
    exact AllAlike.of (enc := fun x => PyData.str x) fun b b' => rfl
  · rw [List.map_map]
    exact Sortable.others (enc := fun x => PyData.str x) fun b => ⟨fun e => (by cases e), fun xs e => (by cases e)⟩
  · intro b hb
    obtain ⟨x, _, rfl⟩ := List.mem_map.mp hb
    exact Nat.zero_le _
  · rw [sort_strs]
    exact q p hp
def encD (d : Str × Str) : PyData := .tuple [.str d.1, .str d.2]
theorem td_dart {K : PySem.W.Frag} {H : Hp} {a : Addr} {d : Str × Str} (h : SqT K H a [.str d.1, .str d.2]) : Td K H (.ref a) (encD d) := .tup h (.cons (.str _) (.cons (.str _) .nil))
theorem td_dart_inv {K : PySem.W.Frag} {H : Hp} {v : V} {d : Str × Str} (h : Td K H v (encD d)) : ∃ a, v = .ref a ∧ SqT K H a [.str d.1, .str d.2] := by
  obtain ⟨a, x, y, rfl, hs, hx, hy⟩ := h.pair_inv
  rw [hx.str_inv, hy.str_inv] at hs
  exact ⟨a, rfl, hs⟩
/-! ### defs of the text -/
structure Df (K : PySem.W.Frag) (mg : Str → Option Value) (nm : Str) (st : Stmt) (ps : List Str) where
  f : Addr
  fd : FuncData
  F : Fun K nm nm st f fd
  b : Binds K fd ps []
  m : mg nm = some (.ref f)
end HD
/-! own errors with an __init__, their context kept; defs that a suite calls with the error in hand -/
namespace HX
open PySem PySem.Spec PyProof.Rows L2 L2H HotX
/-- a def that may raise, by its body (the context of what it raises is told) -/
theorem okN {P : Program} {w : World} {K : PySem.W.Frag} {mg : Str → Option Value} {base : Heap} {x qual : Str} {st : Stmt} {f : Addr} {fd : FuncData} {N ps : List Str} {k : Nat} {sp : Sp} (F : Fun K x qual st f fd) (S : FnScope N ps (defScope st)) (len : ∀ vs H Q E, sp vs H Q E → vs.length = ps.length)
    (hbody : ∀ (cdv : Value) (A : Around) (outer : List Env) (s : Shared) (H : Hp) (vs : List V) (Q : VK) (E : XK), Room k (A.deeper (envOfC qual (defScope st) s.heap.objs.size f cdv)) → sp vs H Q E →
      ∃ t, PSs (cxOf (L2N.CX P w) P w K mg base N qual (defScope st) f cdv A outer s H E) (defBody st) t ∧ t { nx := fun _ H' => Q .non H', rt := Q } (L2.start N vs) H) : FnOk P w K mg base (L2N.CX P w) (k + 1) f fd ps sp := by
  obtain ⟨oc, od, kV, doc, pm, an, cdv, ct, osl, rfl, lk, hcd⟩ := F.ex
  exact fn_of lk hcd S len (fun A outer s H vs Q E r z => hbody cdv A outer s H vs Q E r z)
/-- a def that may raise, called where it doesn't -/
theorem passN0 {X : Cx} {P : Program} {w : World} : Passes (L2N.CX P w) X E0 := fun _ _ _ _ _ _ _ h => by
  obtain ⟨_, _, _, _, _, _, _, _, _, _, _, _, z⟩ := h
  exact z.elim
theorem roomH_at {k : Nat} {A : Around} (r : Room k A) (h : Option Value) : L2H.RoomH k (A.mark h) := ⟨r.dp, r.un⟩
theorem takesN0 {X : Cx} : L2N.Takes X (fun _ _ _ _ => False) := fun _ _ h => by
  obtain ⟨_, _, _, _, _, _, _, _, _, _, _, _, _, _, _, _, z⟩ := h
  exact z.elim
/-- C(e, ..), an own exception with an __init__ -/
theorem pmkN {X : Cx} {CX : CXT} {x : Str} {e : Expr} {es : List Expr} {ta : TA} {p pos : Pos} {C fI : Addr} {k : Nat} {fd : FuncData} {ps : List Str} {sp : Sp} (T : OexC X.K C) (iC : PySem.W.findIn X.K (.ref C) "__init__" = some (some (.ref fI))) (tI : PySem.W.typeIn X.K (.ref fI) = some (.type "function"))
    (F1 : FnOk X.prog X.w X.K X.mg X.base CX k fI fd ps sp) (hr : Room (k + 1) X.A) (hb : Binds X.K fd ps []) (hx : Passes CX X (fun _ _ _ => False)) (hg : Gl X x) (hm : X.mg x = some (.ref C)) (ha : PA X (e :: es) ta)
    (hdb : (x == ("__debug__" : Str)) = false := by decide) (he : starEach (e :: es) X.env = (false, eval e X.env) :: starEach es X.env := by rfl) (hpl : (backTo pos (starEach es X.env)).any (·.1) = false := by rfl) :
    L2N.PMk X (.Call (.Name x p) (e :: es) [] pos) (tMkO C sp [] ta) := by
  intro pins s σ H Q I h
  have r0 := raises_own T.exC T.tyC
  obtain ⟨nm, q, N, bs, bm, sn, sub, ab, col, dd, k0, k1, k2, k3, k5, hC, hbm⟩ := T.cls
  refine wpAny_Call_Name_kw (ld_glob I hg hm ?_ hdb)
  refine PySem.W.callWith_K (h₀ := X.base) I.ok.mod.kin T.kC (thn (ha.run pos pins s σ H _ I h) fun us s1 ⟨vs, H1, I1, r1, hz, q1⟩ => ⟨I1.kIn, ?_⟩) he hpl
  obtain ⟨hp, g, dr, tk, os⟩ := s1
  let h2 : Heap := (hp.push (PySem.W.kdv_tup us)).push (PySem.HandSPX.excO C hp.objs.size)
  have n1 : hp.objs.size ≤ hp.objs.size + 1 := Nat.le_succ _
  have q2 := q1 (hp.objs.size + 1) (I1.hok.fresh n1)
  rw [List.append_nil] at q2
  have kk : ∀ b o, hp.get? b = some o → h2.get? b = some o := fun b o z => Heap.get?_push_of_some _ (Heap.get?_push_of_some _ z)
  have hget : h2.get? (hp.objs.size + 1) = some (PySem.HandSPX.excO C hp.objs.size) := by show ((hp.push _).push _).get? _ = _; heap_get
  have I2 : Inv X pins σ (upd H1 (hp.objs.size + 1) (exo (hp.objs.size + 1) C none)) ⟨h2, g, dr, tk, os⟩ := I1.laid (t' := tk) (a := hp.objs.size + 1) kk n1 (exo_ok hget)
  have r2 : Vals (V.ref (hp.objs.size + 1) :: vs) (Value.ref (hp.objs.size + 1) :: us) := .cons rfl r1
  have l2 : (Value.ref (hp.objs.size + 1) :: us ++ []).length = ps.length := by
    rw [List.append_nil, ← r2.length]
    exact F1.len _ _ _ _ q2
  have b2 := hb ⟨h2, g, dr, tk, os⟩ (Value.ref (hp.objs.size + 1) :: us) I2.kIn l2
  rw [List.append_nil] at b2
  have lus : us.length ≤ sizeLine := by rw [← Paired.length r1, sizeLine_eq]; omega
  show wpAny _ _ (call (.ref C) us) _ _ _
  refine wpAny_call (PySem.HandSPX.call_own F.excBase_ValueError (fun Y => PySem.HandSPX.refsVE_contains Y bm hbm) (I1.kIn _ _ hC) (PySem.W.looks_findIn I1.kIn iC) (fun self => PySem.W.bind_fn I1.kIn self tI) lus
    (codeAny_mono (F1.run _ X.stack _ _ ⟨Value.ref (hp.objs.size + 1) :: us, []⟩ (Value.ref (hp.objs.size + 1) :: us) _ _ (fun _ _ _ => False) (hr.make C us []) (I2.env0.make C us []) b2 r2 q2) fun r s' z => ?_))
  cases r with
  | error er => exact hx pins σ _ _ er s' I2 z
  | ok fl =>
    cases fl with
    | next => exact False.elim z
    | brk => exact False.elim z
    | cont => exact False.elim z
    | ret u =>
      obtain ⟨v, H2, os2, bare2, un2, hok2, rv, rfl, d, fs, ea, ed, hd1, q3⟩ := z
      obtain ⟨h3, g2, d2, t2, os'⟩ := s'
      obtain ⟨t0, G, J, kG, ge, hoe, na⟩ := mk_end0 (d2 := d2) (t2 := t2) I1 n1 kk un2 hok2 os2 bare2 ea ed hd1
      exact ⟨rv, hp.objs.size + 1, _, _, ⟨G, g2, d2, t2, os'⟩, _, .ref C, some d, rfl, J, kG, ge, hoe, ⟨rfl, rfl, fun vs hv => by cases hv; rfl⟩, rfl, rfl, na, rfl, bare2, r0, q3⟩
/-- what a def promises that a suite calls, the handled exception p told -/
structure FnP (P : Program) (w : World) (K : PySem.W.Frag) (mg : Str → Option Value) (base : Heap) (k : Nat) (f : Addr) (fd : FuncData) (ps : List Str) (sp : Addr → Value → Option Addr → List V → Hp → VK → Prop) : Prop where
  len : ∀ a c d vs H Q, sp a c d vs H Q → vs.length = ps.length
  run : ∀ (A : Around) (outer : List Env) (s : Shared) (H : Hp) (args : Args) (us : List Value) (vs : List V) (Q : VK) (p : Addr × Obj) (c : Value) (d : Option Addr), RoomH k A → Hot1 A p → Zc c d p.2 → PinOk outer H s p → Env0 P w K mg base A outer s H → BindsTo s fd args (ps.zip us) → Vals vs us → sp p.1 c d vs H Q →
    codeAny (model P w) A (.call (.ref f) args) (CR CX0 outer P w H s Q E0) s
theorem okP {P : Program} {w : World} {K : PySem.W.Frag} {mg : Str → Option Value} {base : Heap} {x qual : Str} {st : Stmt} {f : Addr} {fd : FuncData} {N ps : List Str} {k : Nat} {sp : Addr → Value → Option Addr → List V → Hp → VK → Prop} (F : Fun K x qual st f fd) (S : FnScope N ps (defScope st)) (len : ∀ a c d vs H Q, sp a c d vs H Q → vs.length = ps.length)
    (hbody : ∀ (cdv : Value) (A : Around) (outer : List Env) (s : Shared) (H : Hp) (vs : List V) (Q : VK) (p : Addr × Obj) (c : Value) (d : Option Addr), Hot1 A p → Zc c d p.2 → RoomH k (A.deeper (envOfC qual (defScope st) s.heap.objs.size f cdv)) → sp p.1 c d vs H Q →
      ∃ t, PSs (cxH CX0 P w K mg base N qual (defScope st) f cdv A outer s H E0 p) (defBody st) t ∧ t { nx := fun _ H' => Q .non H', rt := Q } (L2.start N vs) H) : FnP P w K mg base (k + 1) f fd ps sp := by
  obtain ⟨oc, od, kV, doc, pm, an, cdv, ct, osl, rfl, lk, hcd⟩ := F.ex
  refine ⟨len, fun A outer s H args us vs Q p c d hr hot hz hpin e0 hb r hsp => ?_⟩
  have hl := len _ _ _ _ _ _ hsp
  have up : ∀ (b : Addr) (o : Obj), base.get? b = some o → s.heap.get? b = some o := fun b o z => (e0.bs b o z).1
  have KX : K.In s.heap := e0.mod.kin.keeps up
  have lim : s.heap.NoLimit := e0.mod.nolimit.keeps up
  refine codeAny_call_function hr.depth (KX _ _ lk) rfl S.co S.gen rfl (PySem.W.codeRec_of KX hcd) (hb _ _ _ _ ?_)
  refine wpAny_newFunctionEnv_cells S.kind (fun ⟨n, v⟩ hy => ?_) fun env he s1 x1 => ?_
  · rcases S.par n (List.of_mem_zip hy).1 with z | z
    · exact .inl z
    · exact .inr ⟨z, PySem.W.cellsFrom_some _ _ _ (.inl z)⟩
  subst he
  obtain ⟨t, ht, hq⟩ := hbody cdv A outer s H vs Q p c d hot hz (hr.deeper _) hsp
  have I := inv_startH (CX := CX0) (E := E0) S hpin e0 hl r x1
  refine ⟨lim.keeps x1.toInCall.keep, codeAny_func ?_⟩
  refine wpAny_mono (ht.run [] s1 (L2.start N vs) H _ I hq) (fun fl s2 z => ?_) fun _ _ z => z
  cases fl with
  | ret u => obtain ⟨v, σ2, H2, J, rv, y⟩ := z; exact ⟨v, H2, J.os, J.bare, J.base, J.hok, rv, y⟩
  | next => obtain ⟨σ2, H2, J, y⟩ := z; exact ⟨.non, H2, J.os, J.bare, J.base, J.hok, rfl, y⟩
  | brk => obtain ⟨_, _, _, y⟩ := z; exact y.elim
  | cont => obtain ⟨_, _, _, y⟩ := z; exact y.elim
section
variable {X : Cx} {CX : CXT} {k : Nat} {f : Addr} {fd : FuncData} {ps ks : List Str} {sp : Sp} {E : XK} {x : Str} {p pos : Pos} {kws : List Keyword} {tk : TA} {g : List Value → List Value → List Value} {gV : List V → List V → List V}
/-- f(k = v, ..), nothing by position -/
theorem pe_callK00 (F : FnOk X.prog X.w X.K X.mg X.base CX k f fd ps sp) (hr : Room k X.A) (hg : Gl X x) (hm : X.mg x = some (.ref f)) (hk : PySem.W.keepIn X.K (.ref f) = true) (hb : KBinds X.K fd ps ks g gV) (hx : Passes CX X E)
    (hkw : PK X kws tk) (hall : (backToKw pos (keywordEach kws X.env)).all (·.1.isSome) = true := by rfl) (hks : (backToKw pos (keywordEach kws X.env)).filterMap (·.1) = ks := by rfl)
    (hdb : (x == ("__debug__" : Str)) = false := by decide) (hpl : ((backTo pos (starEach [] X.env)).any (·.1) || (backToKw pos (keywordEach kws X.env)).any (·.1.isNone)) = false := by rfl) :
    PE X (.Call (.Name x p) [] kws pos) (fun σ H Q => tk σ H fun zs H2 => sp (gV [] zs) H2 Q E) := by
  refine ⟨fun pins s σ H Q I h => ?_⟩
  refine wpAny_Call_Name_kw (ld_glob I hg hm ?_ hdb)
  refine PySem.W.callWith_KW0 (h₀ := X.base) I.ok.mod.kin hk hall (thn (hkw.run pos pins s σ H _ I h) fun ws s2 ⟨zs, H2, I2, rz, q2⟩ => ⟨I2.kIn, ?_⟩) hpl
  rw [hks]
  exact run_fnk (us := []) (vs := []) F hr hb hx I2 .nil rz q2
end
section
variable {X : Cx} {p : Addr × Obj}
/-- f(e, ..) in a suite, p the exception in hand -/
theorem pe_callP {k : Nat} {f : Addr} {fd : FuncData} {ps : List Str} {sp : Addr → Value → Option Addr → List V → Hp → VK → Prop} {x : Str} {q pos : Pos} {c : Value} {d : Option Addr} {e : Expr} {es : List Expr} {t : TA} (F : FnP X.prog X.w X.K X.mg X.base k f fd ps sp) (hr : RoomH k X.A) (hot : Hot1 X.A p) (hz : Zc c d p.2) (hp : p ∈ X.pn) (hg : Gl X x) (hm : X.mg x = some (.ref f)) (hk : PySem.W.keepIn X.K (.ref f) = true) (hb : Binds X.K fd ps [])
    (ha : PA X (e :: es) t) (hdb : (x == ("__debug__" : Str)) = false := by decide) (he : starEach (e :: es) X.env = (false, eval e X.env) :: starEach es X.env := by rfl) (hpl : (backTo pos (starEach es X.env)).any (·.1) = false := by rfl) :
    PE X (.Call (.Name x q) (e :: es) [] pos) (fun σ H Q => t σ H fun vs H1 => sp p.1 c d vs H1 Q) := by
  refine ⟨fun pins s σ H Q I h => ?_⟩
  refine wpAny_Call_Name_kw (ld_glob I hg hm ?_ hdb)
  refine PySem.W.callWith_K (h₀ := X.base) I.ok.mod.kin hk (thn (ha.run pos pins s σ H _ I h) fun us s1 ⟨vs, H1, I1, r, z⟩ => ⟨I1.kIn, ?_⟩) he hpl
  have hl : (us ++ []).length = ps.length := by
    rw [List.append_nil, ← r.length]
    exact F.len _ _ _ _ _ _ z
  have b := hb s1 us I1.kIn hl
  rw [List.append_nil] at b
  have P1 := I1.pin p (List.mem_append_left _ hp)
  have hpin : PinOk X.stack H1 s1 p := ⟨P1.1, P1.2.1, fun hm => (List.mem_cons.mp (I1.stkSub p.1 hm)).elim P1.2.2.1 P1.2.2.2.1, P1.2.2.2.2⟩
  show wpAny _ _ (call (.ref f) us) _ _ _
  refine wpAny_call (codeAny_mono (F.run X.A X.stack s1 H1 ⟨us, []⟩ us vs Q p c d hr hot hz hpin I1.env0 b r z) fun r s' hq => ?_)
  cases r with
  | error er => exact (show False from hq).elim
  | ok fl =>
    cases fl with
    | ret u => exact I1.after hq
    | next => exact False.elim hq
    | brk => exact False.elim hq
    | cont => exact False.elim hq
/-- what the class of the exception in hand says -/
structure XiC (K : PySem.W.Frag) (D : Addr) : Prop extends ExcC K D where
  cl : (PySem.W.clsIn K D).isSome = true
theorem inst_at {pins : List (Addr × Obj)} {σ : L2.St} {H : Hp} {s : Shared} {D dd : Addr} {fs : List (Str × V)} (I : L2.Inv X pins σ H s) (hp : p ∈ X.pn) (hc : p.2.cls = .ref D) (hd : p.2.dict = some dd) (hv : ∃ vs, p.2.data = .fields vs) (hx : H dd = some (.xd fs)) :
    ∃ (od : Obj) (mA : Str → Option Value), PySem.W.InstAt s.heap p.1 p.2 D (some od) ∧ (∀ f, PySem.W.lookIn f od = some (mA f)) ∧ ∀ f, RelO (fs.lookup f) (mA f) := by
  obtain ⟨ha, _⟩ := I.pin p (List.mem_append_left _ hp)
  have hx : ObjOk X.prog X.w H s.heap dd (.xd fs) := I.hok dd _ hx
  obtain ⟨mA, hns, hr⟩ := hx
  obtain ⟨od, ho, hl⟩ := lookIn_ns hns
  obtain ⟨vs, hv⟩ := hv
  exact ⟨od, mA, ⟨ha, hc, by unfold PySem.W.notCls; rw [hv] <;> rfl, by rw [hd]; exact ho⟩, hl, hr⟩
/-- isinstance(e, c), e the exception in hand -/
def rIsP (K : PySem.W.Frag) (p : Addr × Obj) (D dd : Addr) (fs : List (Str × V)) : List V → Hp → VK → Prop := fun xs H Q => ∃ (c : V) (cv : Value) (b : Bool), xs = [.ref p.1, c] ∧ ClsV c cv ∧ H dd = some (.xd fs) ∧ PySem.W.kitOne K (.ref D) cv = some b ∧ Q (.bl b) H
/-- isinstance(e, (c1, c2, ..)) -/
def rIsPT (K : PySem.W.Frag) (p : Addr × Obj) (D dd : Addr) (fs : List (Str × V)) : List V → Hp → VK → Prop := fun xs H Q => ∃ (tp : Addr) (cs : List V) (us : List Value) (b : Bool), xs = [.ref p.1, .ref tp] ∧ H tp = some (.tup cs) ∧ Paired ClsV cs us ∧ H dd = some (.xd fs) ∧ PySem.W.kitAny K (.ref D) us = some b ∧ Q (.bl b) H
variable {D dd : Addr} {fs : List (Str × V)}
theorem call_isP (C : XiC X.K D) (hp : p ∈ X.pn) (hc : p.2.cls = .ref D) (hd : p.2.dict = some dd) (hv : ∃ vs, p.2.data = .fields vs) : CallR X (.builtin "isinstance") (rIsP X.K p D dd fs) := by
  intro pins s σ H xs us Q I r h
  obtain ⟨c, cv, b, rfl, hcv, hx, e, q⟩ := h
  obtain ⟨u1, u2, rfl, r1, r2⟩ := vals2 r
  cases hcv.eq r2
  cases (show u1 = Value.ref p.1 from r1)
  obtain ⟨od, mA, J, _⟩ := inst_at I hp hc hd hv hx
  exact PySem.W.kia_one (PySem.W.kitx_exc C.cl C.hg C.hk C.hs C.ha C.hn C.ht C.hm) I.kIn J e (fun z => nomatch z) fun tk => ⟨.bl b, H, I.tok tk, rfl, q⟩
theorem call_isPT (C : XiC X.K D) (hp : p ∈ X.pn) (hc : p.2.cls = .ref D) (hd : p.2.dict = some dd) (hv : ∃ vs, p.2.data = .fields vs) : CallR X (.builtin "isinstance") (rIsPT X.K p D dd fs) := by
  intro pins s σ H xs us Q I r h
  obtain ⟨tp, cs, ws, b, rfl, hT, k, hx, e, q⟩ := h
  obtain ⟨u1, u2, rfl, r1, r2⟩ := vals2 r
  cases (show u2 = Value.ref tp from r2)
  cases (show u1 = Value.ref p.1 from r1)
  obtain ⟨od, mA, J, _⟩ := inst_at I hp hc hd hv hx
  have hT : ObjOk X.prog X.w H s.heap tp (.tup cs) := I.hok tp _ hT
  obtain ⟨_, its, rv, o, h1, h2, n, h3⟩ := hT
  cases ClsV.all k rv
  obtain ⟨oc, od', dt, sl⟩ := o
  simp only at h2 h3
  subst h2 h3
  exact PySem.W.kia_tup (PySem.W.kitx_exc C.cl C.hg C.hk C.hs C.ha C.hn C.ht C.hm) I.kIn J h1 e (fun z => nomatch z) fun tk => ⟨.bl b, H, I.tok tk, rfl, q⟩
/-- e.f, e the exception in hand -/
theorem pe_fldP {e : Expr} {te : TE} {pos : Pos} {n : Str} (C : XiC X.K D) (hno : PySem.W.findIn X.K (.ref D) n = some none) (hp : p ∈ X.pn) (hc : p.2.cls = .ref D) (hd : p.2.dict = some dd) (hv : ∃ vs, p.2.data = .fields vs) (he : PE X e te) (hb : attributeBase e n X.env (eval e X.env) = eval e X.env := by rfl) :
    PE X (.Attribute e n pos) (fun σ H Q => te σ H fun x H1 => x = .ref p.1 ∧ ∃ v, H1 dd = some (.xd fs) ∧ fs.lookup n = some v ∧ Q v H1) := by
  refine ⟨fun pins s σ H Q I h => ?_⟩
  refine attr_of hb (thn (he.run pins s σ H _ I h) fun u s1 hh => ?_)
  obtain ⟨x, H1, I1, rx, rfl, v, hx, l, q⟩ := hh
  cases (show u = Value.ref p.1 from rx)
  obtain ⟨od, mA, J, hl, hr⟩ := inst_at I1 hp hc hd hv hx
  obtain ⟨u, hu, ru⟩ := RelO.some_of (v := v) (o := mA n) (by rw [← l]; exact hr n)
  exact HandSPX.exc_get I1.kIn J C.hg C.hk C.hs (PySem.W.findObj_own C.hd hno rfl (by rw [hl, hu])) (handed_of ru) ⟨v, H1, I1.tok _, ru, q⟩
end
end HX
/-! cells, dicts with cells as keys, a dict with pairs of cells as keys -/
namespace HT
open PySem PySem.Spec PyProof.Rows L2 HD
abbrev Cell := Int × Int
abbrev Edge := Cell × Cell
def nkC (c : Cell) : NestedKey := .tup [.num c.1, .num c.2]
def nk (e : Edge) : NestedKey := .tup [nkC e.1, nkC e.2]
theorem nk_inj {e f : Edge} (h : nk e = nk f) : e = f := by
  obtain ⟨⟨a, b⟩, c, d⟩ := e
  obtain ⟨⟨a', b'⟩, c', d'⟩ := f
  unfold nk nkC at h
  injection h with h
  injection h with h1 h
  injection h with h2 _
  injection h1 with h1
  injection h2 with h2
  injection h1 with x1 h1
  injection h1 with x2 _
  injection h2 with x3 h2
  injection h2 with x4 _
  injection x1 with x1
  injection x2 with x2
  injection x3 with x3
  injection x4 with x4
  subst x1 x2 x3 x4
  rfl
/-- at b the cell c -/
def CellAt (H : Hp) (b : Addr) (c : Cell) : Prop := H b = some (.tup [.int c.1, .int c.2])
/-- at b the pair of cells e -/
def EdgeAt (H : Hp) (b : Addr) (e : Edge) : Prop := ∃ b1 b2, H b = some (.tup [.ref b1, .ref b2]) ∧ CellAt H b1 e.1 ∧ CellAt H b2 e.2
theorem CellAt.mono {H H' : Hp} {b : Addr} {c : Cell} (t : Tm H H') (h : CellAt H b c) : CellAt H' b c := t _ _ h trivial
theorem EdgeAt.mono {H H' : Hp} {b : Addr} {e : Edge} (t : Tm H H') (h : EdgeAt H b e) : EdgeAt H' b e := by
  obtain ⟨b1, b2, h0, h1, h2⟩ := h
  exact ⟨b1, b2, t _ _ h0 trivial, h1.mono t, h2.mono t⟩
/-- at d the entries xs -/
def tiedO (P : Program) (w : World) (d : Addr) (xs : List (NestedKey × Addr × Value)) : HO := .ext fun h => ∃ o es ep, h.get? d = some o ∧ o.ExactDict ∧ o.data = .dict es ep ∧ es.toList = xs.map (entryOfKey (nestedKind P w)) ∧ (d == sysModules) = false
/-- at d a dict whose keys are the pairs L -/
def TiedAt (P : Program) (w : World) (H : Hp) (d : Addr) (L : List Edge) : Prop := ∃ xs, H d = some (tiedO P w d xs) ∧ (xs.map (·.1)).Nodup ∧ (∀ x ∈ xs, ∃ e, x.1 = nk e ∧ EdgeAt H x.2.1 e) ∧ (∀ e, e ∈ L ↔ nk e ∈ xs.map (·.1)) ∧ xs.length ≤ L.length
theorem TiedAt.mono {P : Program} {w : World} {H H' : Hp} {d : Addr} {L : List Edge} (h : TiedAt P w H d L) (hd : H' d = H d) (t : Tm H H') : TiedAt P w H' d L := by
  obtain ⟨xs, h0, h1, h2, h3, h4⟩ := h
  refine ⟨xs, hd.trans h0, h1, fun x hx => ?_, h3, h4⟩
  obtain ⟨e, a, b⟩ := h2 x hx
  exact ⟨e, a, b.mono t⟩
theorem TiedAt.some {P : Program} {w : World} {H : Hp} {d : Addr} {L : List Edge} (h : TiedAt P w H d L) : ∃ xs, H d = some (tiedO P w d xs) := by
  obtain ⟨xs, h0, _⟩ := h
  exact ⟨xs, h0⟩
section
variable {X : Cx} {pins : List (Addr × Obj)} {σ : L2.St} {H : Hp} {s : Shared}
theorem cell_is (I : L2.Inv X pins σ H s) {b : Addr} {c : Cell} (h : CellAt H b c) : NestedIs s.heap (nkC c) (.ref b) := by
  obtain ⟨_, its, rv, o, h1, h2, n, h3⟩ := (show ObjOk X.prog X.w H s.heap b (.tup [.int c.1, .int c.2]) from I.hok b _ h)
  refine .tup h1 h2 h3 ?_
  cases rv with
  | cons r1 rv =>
    cases rv with
    | cons r2 rv =>
      cases rv
      obtain ⟨t1, rfl⟩ := r1
      obtain ⟨t2, rfl⟩ := r2
      exact .cons (.int _ _) (.cons (.int _ _) .nil)
theorem edge_is (I : L2.Inv X pins σ H s) {b : Addr} {e : Edge} (h : EdgeAt H b e) : (nestedKind X.prog X.w).is s.heap (nk e) b := by
  obtain ⟨b1, b2, h0, h1, h2⟩ := h
  obtain ⟨_, its, rv, o, g1, g2, n, g3⟩ := (show ObjOk X.prog X.w H s.heap b (.tup [.ref b1, .ref b2]) from I.hok b _ h0)
  refine ⟨.tup g1 g2 g3 ?_, ?_⟩
  · cases rv with
    | cons r1 rv =>
      cases rv with
      | cons r2 rv =>
        cases rv
        cases r1
        cases r2
        exact .cons (cell_is I h1) (.cons (cell_is I h2) .nil)
  · simp [nk, nkC, NestedKey.depth, NestedKey.depthAll]
theorem tied_dict (I : L2.Inv X pins σ H s) {d : Addr} {xs : List (NestedKey × Addr × Value)} (h0 : H d = some (tiedO X.prog X.w d xs)) (h1 : (xs.map (·.1)).Nodup) (h2 : ∀ x ∈ xs, ∃ e, x.1 = nk e ∧ EdgeAt H x.2.1 e) : s.heap.DictOfH (nestedKind X.prog X.w) d xs ∧ (d == sysModules) = false := by
  have z : ObjOk X.prog X.w H s.heap d (.ext fun h => ∃ o es ep, h.get? d = some o ∧ o.ExactDict ∧ o.data = .dict es ep ∧ es.toList = xs.map (entryOfKey (nestedKind X.prog X.w)) ∧ (d == sysModules) = false) := I.hok d _ h0
  obtain ⟨⟨o, es, ep, a1, a2, a3, a4, a5⟩, _⟩ := z
  refine ⟨⟨o, es, ep, a1, a2, a3, a4, fun x hx => ?_, h1⟩, a5⟩
  obtain ⟨e, b1, b2⟩ := h2 x hx
  rw [b1]
  exact edge_is I b2
theorem at_none {xs : List (NestedKey × Addr × Value)} {k : NestedKey} : (atKey xs k).isSome = decide (k ∈ xs.map (·.1)) := by
  unfold atKey
  rw [Option.isSome_map]
  induction xs with
  | nil => simp
  | cons x xs ih =>
    by_cases h : x.1 = k
    · rw [List.find?_cons_of_pos (by simpa using h)]
      simp [h]
    · rw [List.find?_cons_of_neg (by simpa using h), ih]
      have h2 : k ≠ x.1 := fun z => h z.symm
      simp [h2]
theorem stored_keys {xs : List (NestedKey × Addr × Value)} {k : NestedKey} {b : Addr} {v : Value} : (k ∈ xs.map (·.1) ∧ (storedH xs k b v).map (·.1) = xs.map (·.1) ∧ (∀ x ∈ storedH xs k b v, ∃ y ∈ xs, y.1 = x.1 ∧ y.2.1 = x.2.1)) ∨ (k ∉ xs.map (·.1) ∧ storedH xs k b v = xs ++ [(k, b, v)]) := by
  by_cases h : k ∈ xs.map (·.1)
  · refine .inl ⟨h, ?_, ?_⟩
    · unfold storedH
      rw [at_none, decide_eq_true h, if_pos rfl, List.map_map]
      refine List.map_congr_left fun x _ => ?_
      show (putAt k v x).1 = x.1
      unfold putAt
      split <;> rfl
    · intro x hx
      unfold storedH at hx
      rw [at_none, decide_eq_true h, if_pos rfl] at hx
      obtain ⟨y, hy, rfl⟩ := List.mem_map.mp hx
      refine ⟨y, hy, ?_⟩
      unfold putAt
      split <;> exact ⟨rfl, rfl⟩
  · refine .inr ⟨h, ?_⟩
    unfold storedH
    rw [at_none, decide_eq_false h, if_neg (by simp)]
variable {o i e value : Expr} {pos pos' tpos : Pos} {td ty tv : TE}
/-- e in d, d a dict of pairs -/
theorem pc_tin (hu : X.A.units + 64 < cLine) (hi : PE X i ty) (ho : PE X o td) : PC X .In i o (fun σ H Q => ty σ H fun y H1 => td σ H1 fun x H2 => ∃ d L b e, x = .ref d ∧ y = .ref b ∧ TiedAt X.prog X.w H2 d L ∧ EdgeAt H2 b e ∧ Q (.bl (decide (e ∈ L))) H2) := by
  refine ⟨fun pins s σ H Q I h => ?_⟩
  refine thn (hi.run pins s σ H _ I h) fun iv s1 ⟨y, H1, I1, ry, q1⟩ => thn (ho.run pins s1 σ H1 _ I1 q1) fun u s2 ⟨x, H2, I2, rx, d, L, b, e, ex, ey, ⟨xs, h0, h1, h2, h3, _⟩, he, q2⟩ => ?_
  subst ex ey
  obtain rfl : u = Value.ref d := rx
  obtain rfl : iv = Value.ref b := ry
  obtain ⟨dd, hd⟩ := tied_dict I2 h0 h1 h2
  refine wpAny_in_heap (by show X.A.units + 1 + 8 < cLine; omega) (edge_is I2 he) hd dd ?_
  rw [at_none, show decide (nk e ∈ xs.map (·.1)) = decide (e ∈ L) from by simp only [← h3 e]]
  exact ⟨.bl _, H2, I2.tok _, rfl, q2⟩
/-- d[e] = v, d a dict of pairs -/
theorem ps_tput (hu : X.A.units + 64 < cLine) (ho : PE X o td) (hi : PE X i ty) (hv : PE X value tv) (hs : swapsWith value (some (.Subscript o i pos')) pos.line X.env = pure false) :
    PS X (.Assign [.Subscript o i pos'] value pos) (fun D σ H => tv σ H fun _ H1 => td σ H1 fun x H2 => ty σ H2 fun y H3 => ∃ d L b e, x = .ref d ∧ y = .ref b ∧ TiedAt X.prog X.w H3 d L ∧ EdgeAt H3 b e ∧ L.length ≤ 10000 ∧ ∀ H4, (∀ a, a ≠ d → H4 a = H3 a) → TiedAt X.prog X.w H4 d (L ++ [e]) → D.nx σ H4) := by
  refine ⟨fun pins s σ H D I h => ?_⟩
  refine wpAny_Assign_Subscript (thn (hv.run pins s σ H _ I h) fun r s1 ⟨v, H1, I1, rv, q1⟩ => thn (ho.run pins s1 σ H1 _ I1 q1) fun u s2 ⟨x, H2, I2, rx, q2⟩ => thn (hi.run pins s2 σ H2 _ I2 q2) fun iv s3 ⟨y, H3, I3, ry, d, L, b, e, ex, ey, ⟨xs, h0, h1, h2, h3, h4⟩, he, hL, q3⟩ => ?_) hs
  subst ex ey
  obtain rfl : u = Value.ref d := rx
  obtain rfl : iv = Value.ref b := ry
  obtain ⟨dd, hd⟩ := tied_dict I3 h0 h1 h2
  have hz : xs.length ≤ sizeLine := Nat.le_trans (Nat.le_trans h4 hL) (by decide)
  refine wpAny_setItem_heap (hsz := hz) (by show X.A.units + 1 + 8 < cLine; omega) (edge_is I3 he) dd fun h' dd' hs' => ?_
  obtain ⟨ob, es, ep, a1, a2, a3, a4, a5, a6⟩ := dd'
  have ne : ∀ {c : Addr} {ys : List V}, H3 c = some (.tup ys) → c ≠ d := fun {c ys} z => ne_of z h0 (fun q => by
    have q' : HO.tup ys = HO.ext _ := q
    cases q')
  have J : L2.Inv X pins σ (L2.upd H3 d (tiedO X.prog X.w d (storedH xs (nk e) b r))) { s3 with heap := h', toks := s3.toks + (nestedKind X.prog X.w).draws (nk e) } :=
    d_write I3 (by rw [h0]; exact True.intro) hs' ⟨ob, a1⟩ ⟨⟨ob, es, ep, a1, a2, a3, a4, hd⟩, ⟨ob, a1⟩, fun g1 g2 ⟨o', es', ep', c1, c2⟩ k => ⟨o', es', ep', k _ c1, c2⟩⟩
  have tm : Tm H3 (L2.upd H3 d (tiedO X.prog X.w d (storedH xs (nk e) b r))) := Tm.upd fun u z => by
    rw [h0] at z
    cases z
    exact fun q => q
  refine ⟨σ, _, J, q3 _ (fun a ha => upd_ne ha) ⟨_, upd_same, a6, fun x hx => ?_, fun f => ?_, ?_⟩⟩
  · rcases stored_keys (xs := xs) (k := nk e) (b := b) (v := r) with ⟨_, _, k3⟩ | ⟨_, k2⟩
    · obtain ⟨y, hy, e1, e2⟩ := k3 x hx
      obtain ⟨f, g1, g2⟩ := h2 y hy
      rw [← e1, ← e2]
      exact ⟨f, g1, g2.mono tm⟩
    · rw [k2] at hx
      rcases List.mem_append.mp hx with z | z
      · obtain ⟨f, g1, g2⟩ := h2 x z
        exact ⟨f, g1, g2.mono tm⟩
      · rw [List.mem_singleton.mp z]
        exact ⟨e, rfl, he.mono tm⟩
  · rw [List.mem_append, List.mem_singleton, h3 f]
    rcases stored_keys (xs := xs) (k := nk e) (b := b) (v := r) with ⟨k1, k2, _⟩ | ⟨_, k2⟩
    · rw [k2]
      constructor
      · rintro (z | rfl)
        · exact z
        · exact k1
      · exact .inl
    · rw [k2, List.map_append, List.mem_append]
      constructor
      · rintro (z | rfl)
        · exact .inl z
        · exact .inr (List.mem_singleton.mpr rfl)
      · rintro (z | z)
        · exact .inl z
        · exact .inr (nk_inj (List.mem_singleton.mp z))
  · rw [List.length_append, List.length_singleton]
    rcases stored_keys (xs := xs) (k := nk e) (b := b) (v := r) with ⟨_, k2, _⟩ | ⟨_, k2⟩
    · have := congrArg List.length k2
      rw [List.length_map, List.length_map] at this
      omega
    · rw [k2, List.length_append, List.length_singleton]
      omega
/-- {}, for pairs -/
theorem pe_tnew : PE X (.Dict [] [] pos) (fun _ H Q => ∀ d, H d = none → ∀ H', (∀ a, a ≠ d → H' a = H a) → TiedAt X.prog X.w H' d [] → Q (.ref d) H') := ⟨fun pins s σ H Q I h => by
  have nz : (s.heap.objs.size == sysModules) = false := beq_eq_false_iff_ne.mpr (Ne.symm (Nat.ne_of_lt I.big))
  have new : (s.heap.push { cls := .type "dict", data := .dict #[] }).get? s.heap.objs.size = some ({ cls := .type "dict", data := .dict #[] } : Obj) := Heap.get?_push_size _ rfl
  have J : L2.Inv X pins σ (L2.upd H s.heap.objs.size (tiedO X.prog X.w s.heap.objs.size [])) { s with heap := s.heap.push { cls := .type "dict", data := .dict #[] }, toks := s.toks } :=
    I.laid (fun _ _ q => Heap.get?_push_of_some _ q) (Nat.le_refl _) ⟨⟨_, #[], 0, new, ⟨rfl, rfl, rfl⟩, rfl, rfl, nz⟩, ⟨_, new⟩, fun g1 g2 ⟨o', es', ep', c1, c2⟩ k => ⟨o', es', ep', k _ c1, c2⟩⟩
  exact wpAny_Dict_empty ⟨.ref s.heap.objs.size, _, J, rfl, h _ (I.hok.fresh (Nat.le_refl _)) _ (fun a ha => upd_ne ha) ⟨[], upd_same, List.nodup_nil, fun x hx => (nomatch hx), fun e => ⟨fun z => (nomatch z), fun z => (nomatch z)⟩, Nat.le_refl _⟩⟩⟩
end
end HT
/-! dicts with cells as keys: d.pop(k), sorted(d), {k: v} -/
namespace HT
open PySem PySem.Spec PyProof.Rows L2 HD
open PySem.W (KdlSrc EachIs)
section
variable {X : Cx}
/-- d.pop(k), k is there -/
theorem mt_pop1T (hu : X.A.units + 1 < cLine) : MtR X "dict.pop" (fun x xs H Q => ∃ (a : Addr) (kvs : List (List L2.Key × V)) (k : List L2.Key) (b : Addr) (v : V), x = .ref a ∧ xs = [.ref b] ∧ H a = some (.dT kvs) ∧ H b = some (.tup (k.map kV)) ∧ valV kvs k = some v ∧ Q v (L2.upd H a (.dT (dropK kvs k)))) := by
  intro pins s σ H x xs v us Q I rx rxs h
  obtain ⟨a, kvs, k, b, v1, rfl, rfl, ha, hb, hv, q⟩ := h
  cases rx
  obtain ⟨u1, rfl, r1⟩ := vals1 rxs
  cases r1
  obtain ⟨z, hd, xs', rel, dd⟩ := dt_of I.hok ha
  have hz : xs'.length ≤ sizeLine := by rw [← Paired.length rel]; exact z
  have r := rel.val k
  rw [hv] at r
  obtain ⟨p, hp, rv⟩ : ∃ p, atKey xs' k = some p ∧ RelV v1 p.2 := by
    cases e : atKey xs' k with
    | none => rw [e] at r; exact (show False from r).elim
    | some p => rw [e] at r; exact ⟨p, rfl, r⟩
  refine call_pop_heap (hsz := hz) (more := []) (.inl rfl) (PySem.F.args_dict_pop_2 _ _) (tupleKind_room_in1 hu) (key_of I.hok hb) hd dd hp fun h' dd' hs => ?_
  obtain ⟨o, es, ep, hq, h2, h3, h4, _, h5⟩ := dd'
  have J : L2.Inv X pins σ (L2.upd H a (.dT (dropK kvs k))) { s with heap := h', toks := s.toks + (tupleKind (mixKind X.prog X.w)).draws k } :=
    d_write (ob := .dT (dropK kvs k)) I (by rw [ha]; exact True.intro) hs ⟨o, hq⟩ ⟨Nat.le_trans (dropK_le kvs k) z, hd, _, (L2.DX.KT_drop k rel).keeps (fun c ys ec => (by rw [upd_ne (ne_of ec ha (fun z => nomatch z))]; exact ec)), o, es, ep, hq, h2, h3, h4, h5⟩
  exact ⟨v1, _, J, rv, q⟩
end
section
variable {prog : Program} {w : World} {A : Around} {E : Value → Shared → Prop} {s : Shared} {T : String} {r d : Addr} {n : Nat} {P : Nat → Value → Prop} {OK : Heap → Prop}
/-- what a walkable thing yields, collected -/
theorem kdl_collect {R : List Value → Shared → Prop} (K : KdlSrc prog w T r d n P OK) (hh : A.handled = none) (hok : OK s.heap) (hn : n ≤ sizeLine)
    (h : ∀ (h' : Heap) (tk : Nat) (acc : Array Value), (∀ b o, s.heap.get? b = some o → h'.get? b = some o) → ItemsOf P acc n → R acc.toList { s with heap := h', toks := tk }) :
    wpAny (model prog w) A (collect (.ref r)) R E s := by
  have hlt := K.there _ hok
  unfold collect
  refine wpAny_bind (wpAny_runValue (codeAny_builtin PySem.F.entry_proto_collect ?_))
  rw [Around.under_plainId PySem.F.plain_proto_collect _]
  show wpAny _ A.in1 (newList [] >>= fun l => again (.builtin "list.__iadd__" ⟨[l, .ref r], []⟩)) _ _ s
  refine wpAny_bind (wpAny_newObj_type ?_)
  refine wpAny_pure ⟨plainId_quiet PySem.F.plain_list_iadd _, codeAny_builtin PySem.F.entry_list_iadd ?_⟩
  rw [Around.under_plainId PySem.F.plain_list_iadd _]
  have hS : (s.heap.push { cls := .type "list", data := .seq ([] : List Value).toArray }).get? s.heap.objs.size = some { cls := .type "list", data := .seq #[] } := Heap.get?_push_size _ rfl
  show wpAny _ A.in1 (Builtin.List.listExtendWith (.ref s.heap.objs.size) (.ref r) (.ref s.heap.objs.size)) _ _ _
  have key := PySem.W.kdl_extend (A := A) (s := { s with heap := s.heap.push { cls := .type "list", data := .seq ([] : List Value).toArray } })
    (R := fun (q : Result) (s' : Shared) => ∃ (h' : Heap) (tk : Nat) (acc' : Array Value) (c' : Nat), q = .ok (.ret (.ref s.heap.objs.size)) ∧ s' = { s with heap := h', toks := tk } ∧ (∀ b o, s.heap.get? b = some o → h'.get? b = some o) ∧ h'.get? s.heap.objs.size = some { cls := .type "list", dict := none, data := .seq acc' c', slots := #[] } ∧ ItemsOf P acc' n)
    K hh (K.keep _ _ hok fun b _ o e => Heap.get?_push_of_some _ e) s.heap.objs.size (Nat.ne_of_gt hlt.1) (Nat.ne_of_gt hlt.2) (.ref s.heap.objs.size) 0 hS
    (fun h' tk acc' c' hk hS' hacc => ⟨h', tk, acc', c', rfl, rfl, fun b o e => hk b o (Nat.ne_of_lt (Heap.lt_size e)) (Heap.get?_push_of_some _ e), hS', hacc⟩) hn
  refine wpAny_mono key (fun fin s' x => ?_) fun e s' x => ?_
  · cases fin with
    | done f =>
      obtain ⟨h', tk, acc', c', e, rfl, hk, hS', hacc⟩ := x
      cases e
      show wpAny _ A (load s.heap.objs.size >>= _) _ _ _
      exact wpAny_bind (wpAny_load hS' (wpAny_pure (h h' tk acc' hk hacc)))
    | again c₁ =>
      refine ⟨x.1, codeAny_mono x.2 fun q s₂ y => ?_⟩
      obtain ⟨h', tk, acc', c', rfl, rfl, hk, hS', hacc⟩ := y
      show wpAny _ A (load s.heap.objs.size >>= _) _ _ _
      exact wpAny_bind (wpAny_load hS' (wpAny_pure (h h' tk acc' hk hacc)))
  · obtain ⟨_, _, _, _, e', _⟩ := x
    cases e'
end
/-- a cell as data -/
def encC (c : Cell) : PyData := .tuple [.int c.1, .int c.2]
def keyC (c : Cell) : List L2.Key := [.inl c.1, .inl c.2]
theorem td_cell {K : PySem.W.Frag} {H : Hp} {b : Addr} {c : Cell} (h : CellAt H b c) : Td K H (.ref b) (encC c) := .tup (SqT.of h) (.cons (.int _) (.cons (.int _) .nil))
theorem alike_cell (c d : Cell) : PySem.W.alike (encC c) (encC d) = true := by simp [encC, PySem.W.alike, PySem.W.alikeAll]
section
variable {X : Cx}
/-- sorted(d), d a dict of cells: the cells in some sequence -/
inductive rSortT (vs : List V) (H : Hp) (Q : VK) : Prop
  | mk (a : Addr) (cs : List (Cell × V)) (e : vs = [.ref a]) (h : H a = some (.dT (cs.map fun x => (keyC x.1, x.2))))
      (q : ∀ (p : Addr) (bs : List (Addr × Cell)), H p = none → (bs.map (·.2)).Perm (cs.map (·.1)) → (∀ b ∈ bs, CellAt H b.1 b.2) → Q (.ref p) (L2.upd H p (.lst (bs.map fun b => .ref b.1))))
theorem cr_sortT (hc : X.calm = true) (hu : X.A.units + 64 < cLine) : CallR X (.builtin "sorted") rSortT := by
  intro pins s σ H vs us Q I r h
  obtain ⟨a, cs, rfl, ha, q⟩ := h
  rw [Vals.ref1 r]
  obtain ⟨z, hs, ks, pr, o, es, ep, ho, hx, hdt, he, hn⟩ := (show ObjOk X.prog X.w H s.heap a (.dT (cs.map fun x => (keyC x.1, x.2))) from I.hok a _ ha)
  have l1 : es.size = ks.length := size_of_entries he
  have l2 : (cs.map fun x => (keyC x.1, x.2)).length = ks.length := Paired.length pr
  rw [List.length_map] at l2
  let bs : List (Addr × Cell) := (ks.map fun x => x.2.1).zip (cs.map (·.1))
  have hb2 : bs.map (·.2) = cs.map (·.1) := List.map_snd_zip (by rw [List.length_map, List.length_map]; omega)
  have hb1 : bs.map (·.1) = ks.map fun x => x.2.1 := List.map_fst_zip (by rw [List.length_map, List.length_map]; omega)
  have hcell : ∀ b ∈ bs, CellAt H b.1 b.2 := fun b hb => by
    obtain ⟨i, hi⟩ := List.mem_iff_getElem?.mp hb
    obtain ⟨h1, h2⟩ := List.getElem?_zip_eq_some.mp hi
    rw [List.getElem?_map] at h1 h2
    cases e1 : ks[i]? with
    | none => rw [e1] at h1; cases h1
    | some k =>
      cases e2 : cs[i]? with
      | none => rw [e2] at h2; cases h2
      | some c =>
        rw [e1] at h1
        rw [e2] at h2
        obtain ⟨p, hp, g1, g2, _⟩ := L2.DX.pget pr e1
        rw [List.getElem?_map, e2] at hp
        cases hp
        have f1 : k.2.1 = b.1 := Option.some.inj h1
        have f2 : c.1 = b.2 := Option.some.inj h2
        rw [← f1, ← f2]
        exact g2
  have nz : ∀ (acc : Array Value), ItemsOf (fun i v => ∃ en : DictEntry, es[i]? = some en ∧ v = en.key) acc es.size → acc.toList = bs.map fun b => Value.ref b.1 := fun acc it => by
    have hl : acc.toList.length = ks.length := by rw [Array.length_toList, it.1]; exact l1
    have hr : (bs.map fun b => Value.ref b.1) = ks.map fun x => Value.ref x.2.1 := by
      have := congrArg (List.map Value.ref) hb1
      rw [List.map_map, List.map_map] at this
      exact this
    rw [hr]
    refine List.ext_getElem? fun j => ?_
    rw [List.getElem?_map]
    cases hj : acc.toList[j]? with
    | none =>
      have h1 := List.getElem?_eq_none_iff.mp hj
      rw [List.getElem?_eq_none (by omega)]
      rfl
    | some v =>
      obtain ⟨en, hen, hv⟩ := it.2 j v (by rw [← Array.getElem?_toList]; exact hj)
      have qe := entry_at he j
      rw [hen] at qe
      cases hb : ks[j]? with
      | none => rw [hb] at qe; exact nomatch (show some en = none from qe)
      | some b =>
        rw [hb] at qe
        have e2 : en = entryOfKey (tupleKind (mixKind X.prog X.w)) b := Option.some.inj qe
        rw [hv, e2]
        rfl
  have hbl : bs.length = ks.length := by
    have := congrArg List.length hb1
    rw [List.length_map, List.length_map] at this
    exact this
  have hz : (bs.map fun b => Value.ref b.1).length ≤ sizeLine := by
    rw [List.length_map, hbl, ← l2]
    rw [List.length_map] at z
    exact z
  have each : ∀ l : List (Addr × Cell), EachIs (fun v (b : Addr × Cell) => v = Value.ref b.1) (l.map fun b => Value.ref b.1) l := fun l => by
    induction l with
    | nil => exact .nil
    | cons b l ih => exact .cons rfl ih
  have back : ∀ {l : List (Addr × Cell)} {out : List Value}, EachIs (fun v (b : Addr × Cell) => v = Value.ref b.1) out l → Vals (l.map fun b => V.ref b.1) out := fun {l out} h => by
    induction h with
    | nil => exact .nil
    | cons h _ ih => exact .cons h ih
  have rd : ∀ l : List (Addr × Cell), (∀ b ∈ l, CellAt H b.1 b.2) → EachIs (fun v (b : Addr × Cell) => ∃ as, Reads s.heap v (encC b.2) as) (l.map fun b => Value.ref b.1) l := fun l hl => by
    induction l with
    | nil => exact .nil
    | cons b l ih =>
      refine .cons ?_ (ih fun c hc => hl c (List.mem_cons_of_mem _ hc))
      exact Dp.reads I (encC b.2) (.ref b.1) (.ref b.1) (td_cell (K := X.K) (hl b (List.mem_cons_self ..))).dp rfl
  refine sorted_dataG (bs := bs) (enc := fun b => encC b.2) (R := fun v (b : Addr × Cell) => v = Value.ref b.1) hz (fun E' Q' hq => kdl_collect (kdl_raw hs hx hdt) (I.ok.hd hc) ho (by rw [l1, ← hbl]; simpa using hz) fun h' tk acc kp it => ?_) (each bs) (rd bs hcell)
    (PySem.W.AllAlike.of fun b b' => alike_cell b.2 b'.2) (PySem.W.Sortable.tuples fun b => ⟨_, _, rfl⟩) (fun b hb => ?_) fun h' tk p out k hp ⟨n, hop⟩ hl he' => ?_
  · rw [nz acc it]
    exact hq h' tk kp
  · show X.A.units + 2 + 1 < cLine
    omega
  · have pm := List.mergeSort_perm bs (PySem.W.dataLe false fun b => encC b.2)
    refine ⟨.ref p, L2.upd H p (.lst ((bs.mergeSort (PySem.W.dataLe false fun b => encC b.2)).map fun b => V.ref b.1)), I.laidN (t' := tk) k hp (I.hok.gone hp) ⟨?_, out, n, back he', hop⟩, rfl, q p _ (I.hok.gone hp) ?_ fun b hb => hcell b (pm.mem_iff.mp hb)⟩
    · rw [List.length_map, List.length_mergeSort]
      simpa using hz
    · have := pm.map (·.2)
      rw [hb2] at this
      exact this
/-- {k: v}, k a cell -/
theorem pe_disp1T {k v : Expr} {pos : Pos} {tk tv : TE} (hu : X.A.units + 64 < cLine) (hk : PE X k tk) (hv : PE X v tv) :
    PE X (.Dict [some k] [v] pos) (fun σ H Q => ∀ d, H d = none → tk σ (L2.upd H d (.dT [])) fun x H1 => tv σ H1 fun y H2 => ∃ b key, x = .ref b ∧ H2 b = some (.tup (List.map kV key)) ∧ H2 d = some (.dT []) ∧ Q (.ref d) (L2.upd H2 d (.dT [(key, y)]))) := by
  refine ⟨fun pins s σ H Q I h => ?_⟩
  have new : H s.heap.objs.size = none := I.hok.fresh (Nat.le_refl _)
  have I0 : L2.Inv X pins σ (L2.upd H s.heap.objs.size (.dT [])) { s with heap := s.heap.push { cls := .type "dict", data := .dict #[] }, toks := s.toks } := I.laid (fun _ _ q => Heap.get?_push_of_some _ q) (Nat.le_refl _) (dt_empty s.heap I.big)
  rw [arm_eval_Dict, zip_pairTrees [some k] [v] X.env pos rfl rfl, dictDisplay_pairs (pairTrees [some k] [v] X.env pos) (by intro e; cases e) (by show 1 < 17; decide)]
  refine wpAny_bind (wpAny_standAt (wpAny_bind (wpAny_subDictH (knd := tupleKind (mixKind X.prog X.w)) (Q := fun d s' => wpAny (model X.prog X.w) X.A (pure (Value.ref d)) (EP X pins σ Q) X.xe s') (by show X.A.units < cLine; omega) (by show 1 ≤ 15; decide) ?_)))
  refine pairTrees_cons_walk (thn (hk.run pins _ σ _ _ I0 (h _ new)) fun u s1 ⟨x, H1, I1, rx, q1⟩ => thn (hv.run pins s1 σ H1 _ I1 q1) fun w2 s2 ⟨y, H2, I2, ry, b, key, ex, hb, hd, q2⟩ => pairTrees_nil_walk ?_)
  subst ex
  obtain rfl : u = Value.ref b := rx
  obtain ⟨_, nz, xs', rel, dd⟩ := dt_of I2.hok hd
  have e0 : xs' = [] := by
    cases rel
    rfl
  subst e0
  refine ⟨[(key, b, w2)], ⟨rfl, rfl, key_of I2.hok hb, trivial⟩, dd, fun h' tk dd' hs => wpAny_pure ?_⟩
  obtain ⟨o, es, ep, hq, g2, g3, g4, _, g5⟩ := dd'
  have J : L2.Inv X pins σ (L2.upd H2 s.heap.objs.size (.dT [(key, y)])) { s2 with heap := h', toks := tk } :=
    d_write (ob := .dT [(key, y)]) I2 (by rw [hd]; exact True.intro) hs ⟨o, hq⟩ ⟨by show 1 ≤ sizeLine; decide, nz, [(key, b, w2)], .cons ⟨rfl, by rw [upd_ne (ne_of hb hd (fun z => nomatch z))]; exact hb, ry⟩ .nil, o, es, ep, hq, g2, g3, g4, g5⟩
  exact ⟨.ref s.heap.objs.size, _, J, rfl, q2⟩
end
end HT
/-! a pure store over the hand layer: slots hold data or objects of their own; a mirror of a body is a function on slots -/
namespace G
open PySem PyProof.Rows L2 HD
/-- tuples and what is known stay -/
def Fm (H H' : Hp) : Prop := ∀ a o u, H a = some (.frz o u) → H' a = some (.frz o u)
theorem Fm.refl (H : Hp) : Fm H H := fun _ _ _ h => h
theorem Fm.trans {H H1 H2 : Hp} (a : Fm H H1) (b : Fm H1 H2) : Fm H H2 := fun c o u h => b c o u (a c o u h)
theorem Fm.of {H H' : Hp} (e : Same H H') : Fm H H' := fun a o u h => e a _ h
theorem Fm.ft {H H' : Hp} (e : Fm H H') {a : Addr} {xs : List V} (h : FT H a xs) : FT H' a xs := by
  obtain ⟨o, h, c, d⟩ := h
  exact ⟨o, e _ _ _ h, c, d⟩
/-- a list that is known -/
def FL (H : Hp) (a : Addr) (xs : List V) : Prop := ∃ o, H a = some (.frz o (.lst xs))
theorem FL.mono {H H' : Hp} (e : Fm H H') {a : Addr} {xs : List V} (h : FL H a xs) : FL H' a xs := by
  obtain ⟨o, h⟩ := h
  exact ⟨o, e _ _ _ h⟩
theorem FL.sqL {K : PySem.W.Frag} {H : Hp} {a : Addr} {xs : List V} (h : FL H a xs) : SqL K H a xs := .inl (.inr h)
def kD : Key → PyData
  | .inl i => .int i
  | .inr x => .str x
mutual
/-- a key as data -/
def nkD : NestedKey → PyData
  | .num i => .int i
  | .text x => .str x
  | .none => .none
  | .tup ks => .tuple (nkDs ks)
def nkDs : List NestedKey → List PyData
  | [] => []
  | k :: ks => nkD k :: nkDs ks
end
mutual
/-- no dict in it -/
def noDict : PyData → Bool
  | .dict _ => false
  | .list xs => noDictAll xs
  | .tuple xs => noDictAll xs
  | _ => true
def noDictAll : List PyData → Bool
  | [] => true
  | x :: xs => noDict x && noDictAll xs
end
mutual
/-- a value that will not change, as data -/
inductive R (C : Program × World) (H : Hp) : V → PyData → Prop
  | non : R C H .non .none
  | bl (b : Bool) : R C H (.bl b) (.bool b)
  | int (i : Int) : R C H (.int i) (.int i)
  | str (x : Str) : R C H (.str x) (.str x)
  | tup {a : Addr} {xs : List V} {ds : List PyData} : FT H a xs → RA C H xs ds → R C H (.ref a) (.tuple ds)
  | lst {a : Addr} {xs : List V} {ds : List PyData} : FL H a xs → RA C H xs ds → R C H (.ref a) (.list ds)
  | dK {a : Addr} {o : Obj} {kvs : List (Key × V)} {es : List (Key × PyData)} {l : List (PyData × PyData)} : H a = some (.frz o (.dK kvs)) → kvs.map (·.1) = es.map (·.1) → RA C H (kvs.map (·.2)) (es.map (·.2)) → l = es.map (fun e => (kD e.1, e.2)) → R C H (.ref a) (.dict l)
  | dN {a : Addr} {o : Obj} {xs : List (NestedKey × Addr × Value)} {vs : List V} {es : List (NestedKey × PyData)} {l : List (PyData × PyData)} : H a = some (.frz o (HT.tiedO C.1 C.2 a xs)) → (xs.map (·.1)).Nodup ∧ (∀ x ∈ xs, x.1.depth ≤ 8) → xs.map (·.1) = es.map (·.1) → (∀ x ∈ xs, R C H (.ref x.2.1) (nkD x.1)) → Vals vs (xs.map (·.2.2)) → RA C H vs (es.map (·.2)) →
      l = es.map (fun e => (nkD e.1, e.2)) → R C H (.ref a) (.dict l)
inductive RA (C : Program × World) (H : Hp) : List V → List PyData → Prop
  | nil : RA C H [] []
  | cons {v : V} {vs : List V} {d : PyData} {ds : List PyData} : R C H v d → RA C H vs ds → RA C H (v :: vs) (d :: ds)
end
section
variable {C : Program × World} {K : PySem.W.Frag} {H H' : Hp}
mutual
theorem R.mono (e : Fm H H') : ∀ {d : PyData} {v : V}, R C H v d → R C H' v d
  | _, _, .non => .non
  | _, _, .bl b => .bl b
  | _, _, .int i => .int i
  | _, _, .str x => .str x
  | _, _, .tup h t => .tup (e.ft h) (RA.mono e t)
  | _, _, .lst h t => .lst (h.mono e) (RA.mono e t)
  | _, _, .dK h k t l => .dK (e _ _ _ h) k (RA.mono e t) l
  | _, _, .dN h n k a v t l => .dN (e _ _ _ h) n k (fun x hx => R.mono e (a x hx)) v (RA.mono e t) l
theorem RA.mono (e : Fm H H') : ∀ {ds : List PyData} {vs : List V}, RA C H vs ds → RA C H' vs ds
  | _, _, .nil => .nil
  | _, _, .cons h t => .cons (R.mono e h) (RA.mono e t)
end
mutual
theorem R.dp : ∀ {d : PyData} {v : V}, R C H v d → noDict d = true → Dp K H v d
  | _, _, .non, _ => .non
  | _, _, .bl b, _ => .bl b
  | _, _, .int i, _ => .int i
  | _, _, .str x, _ => .str x
  | _, _, .tup h t, n => .tup h.sqT (RA.dp t (by simpa [noDict] using n))
  | _, _, .lst h t, n => .lst h.sqL (RA.dp t (by simpa [noDict] using n))
  | _, _, .dK h k t l, n => by simp [noDict] at n
  | _, _, .dN h _ k a v t l, n => by simp [noDict] at n
theorem RA.dp : ∀ {ds : List PyData} {vs : List V}, RA C H vs ds → noDictAll ds = true → DpAll K H vs ds
  | _, _, .nil, _ => .nil
  | _, _, .cons h t, n => by
    rw [noDictAll, Bool.and_eq_true] at n
    exact .cons (R.dp h n.1) (RA.dp t n.2)
end
theorem RA.length : ∀ {vs : List V} {ds : List PyData}, RA C H vs ds → vs.length = ds.length
  | _, _, .nil => rfl
  | _, _, .cons _ t => congrArg (· + 1) (RA.length t)
theorem RA.get : ∀ {vs : List V} {ds : List PyData} {i : Nat} {v : V}, RA C H vs ds → vs[i]? = some v → ∃ d, ds[i]? = some d ∧ R C H v d
  | _, _, _, _, .nil, e => by simp at e
  | _, _, 0, _, .cons h _, e => by
    have e := Option.some.inj (show some _ = some _ from e)
    subst e
    exact ⟨_, rfl, h⟩
  | _, _, i + 1, _, .cons _ t, e => RA.get (i := i) t (by simpa using e)
theorem RA.get2 : ∀ {vs : List V} {ds : List PyData} {i : Nat} {d : PyData}, RA C H vs ds → ds[i]? = some d → ∃ v, vs[i]? = some v ∧ R C H v d
  | _, _, _, _, .nil, e => by simp at e
  | _, _, 0, _, .cons h _, e => by
    have e := Option.some.inj (show some _ = some _ from e)
    subst e
    exact ⟨_, rfl, h⟩
  | _, _, i + 1, _, .cons _ t, e => RA.get2 (i := i) t (by simpa using e)
theorem RA.append : ∀ {vs ws : List V} {ds es : List PyData}, RA C H vs ds → RA C H ws es → RA C H (vs ++ ws) (ds ++ es)
  | _, _, _, _, .nil, h => h
  | _, _, _, _, .cons h t, q => .cons h (RA.append t q)
theorem RA.of {ds : List PyData} : ∀ {vs : List V}, vs.length = ds.length → (∀ (i : Nat) (v : V) (d : PyData), vs[i]? = some v → ds[i]? = some d → R C H v d) → RA C H vs ds := by
  induction ds with
  | nil =>
    intro vs hl _
    rw [List.length_eq_zero_iff.mp hl]
    exact .nil
  | cons d ds ih =>
    intro vs hl h
    cases vs with
    | nil => simp at hl
    | cons v vs => exact .cons (h 0 v d rfl rfl) (ih (by simpa using hl) fun i v d h1 h2 => h (i + 1) v d (by simpa using h1) (by simpa using h2))
theorem RA.take {vs : List V} {ds : List PyData} (h : RA C H vs ds) (k : Nat) : RA C H (vs.take k) (ds.take k) := by
  induction k generalizing vs ds with
  | zero => exact .nil
  | succ k ih => cases h with
    | nil => exact .nil
    | cons a b => exact .cons a (ih b)
theorem RA.drop {vs : List V} {ds : List PyData} (h : RA C H vs ds) (k : Nat) : RA C H (vs.drop k) (ds.drop k) := by
  induction k generalizing vs ds with
  | zero => exact h
  | succ k ih => cases h with
    | nil => exact .nil
    | cons a b => exact ih b
theorem RA.set {vs : List V} {ds : List PyData} (h : RA C H vs ds) (k : Nat) {v : V} {d : PyData} (r : R C H v d) : RA C H (vs.set k v) (ds.set k d) := by
  induction k generalizing vs ds with
  | zero => cases h with
    | nil => exact .nil
    | cons a b => exact .cons r b
  | succ k ih => cases h with
    | nil => exact .nil
    | cons a b => exact .cons a (ih b)
theorem RA.eraseIdx {vs : List V} {ds : List PyData} (h : RA C H vs ds) (k : Nat) : RA C H (vs.eraseIdx k) (ds.eraseIdx k) := by
  induction k generalizing vs ds with
  | zero => cases h with
    | nil => exact .nil
    | cons a b => exact b
  | succ k ih => cases h with
    | nil => exact .nil
    | cons a b => exact .cons a (ih b)
theorem RA.reverse {vs : List V} {ds : List PyData} (h : RA C H vs ds) : RA C H vs.reverse ds.reverse := by
  induction h using RA.rec (motive_1 := fun _ _ _ => True) with
  | non => trivial
  | bl => trivial
  | int => trivial
  | str => trivial
  | tup => trivial
  | lst => trivial
  | dK => trivial
  | dN => trivial
  | nil => exact .nil
  | cons a b _ ih =>
    rw [List.reverse_cons, List.reverse_cons]
    exact ih.append (.cons a .nil)
end
/-! ### slots -/
/-- an object of a slot's own -/
inductive Ob where
  | lst (ds : List PyData)
  | dK (es : List (Key × PyData))
  /-- a dict whose keys are tuples -/
  | dN (es : List (NestedKey × PyData))
  /-- a list with one list of its own in it -/
  | pool (pre gr post : List PyData)
inductive Sl where
  | non
  | dat (d : PyData)
  | own (o : Ob)
  | par (k : Nat) (o : Ob)
abbrev Env := List Sl
def Sl.ob : Sl → Option Ob
  | .own o => some o
  | .par _ o => some o
  | _ => none
def Ob.data : Ob → Option PyData
  | .lst ds => some (.list ds)
  | .dK es => some (.dict (es.map fun e => (kD e.1, e.2)))
  | .dN es => some (.dict (es.map fun e => (nkD e.1, e.2)))
  | .pool _ _ _ => none
/-- an object instead of that of the slot -/
def Sl.put (o : Ob) : Sl → Sl
  | .own _ => .own o
  | .par k _ => .par k o
  | s => s
/-- what may be written without tuples and what is known being touched -/
def NF : HO → Prop
  | .lst _ => True
  | .dK _ => True
  | .ext _ => True
  | _ => False
/-- the entries, one by one -/
def KR {κ : Type} (C : Program × World) (H : Hp) (kvs : List (κ × V)) (es : List (κ × PyData)) : Prop := Paired (fun p e => p.1 = e.1 ∧ R C H p.2 e.2) kvs es
theorem KR.mono {κ : Type} {C : Program × World} {H H' : Hp} {kvs : List (κ × V)} {es : List (κ × PyData)} (h : KR C H kvs es) (e : Fm H H') : KR C H' kvs es := Paired.mapP h fun _ _ z => ⟨z.1, z.2.mono e⟩
theorem KR.flat {κ : Type} {C : Program × World} {H : Hp} : ∀ {kvs : List (κ × V)} {es : List (κ × PyData)}, KR C H kvs es → kvs.map (·.1) = es.map (·.1) ∧ RA C H (kvs.map (·.2)) (es.map (·.2))
  | _, _, .nil => ⟨rfl, .nil⟩
  | _, _, .cons r t => by
    obtain ⟨a, b⟩ := KR.flat t
    exact ⟨by rw [List.map_cons, List.map_cons, a, r.1], .cons r.2 b⟩
theorem KR.of {κ : Type} {C : Program × World} {H : Hp} : ∀ {kvs : List (κ × V)} {es : List (κ × PyData)}, kvs.map (·.1) = es.map (·.1) → RA C H (kvs.map (·.2)) (es.map (·.2)) → KR C H kvs es
  | [], [], _, _ => .nil
  | [], _ :: _, e, _ => by simp at e
  | _ :: _, [], e, _ => by simp at e
  | p :: kvs, q :: es, e, r => by
    simp only [List.map_cons, List.cons.injEq] at e
    cases r with
    | cons a b => exact .cons ⟨e.1, a⟩ (KR.of e.2 b)
structure DN (C : Program × World) (H : Hp) (xs : List (NestedKey × Addr × Value)) (es : List (NestedKey × PyData)) : Prop where
  nd : (xs.map (·.1)).Nodup ∧ (∀ x ∈ xs, x.1.depth ≤ 8)
  ent : Paired (fun x e => x.1 = e.1 ∧ R C H (.ref x.2.1) (nkD x.1) ∧ ∃ v, RelV v x.2.2 ∧ R C H v e.2) xs es
theorem DN.mono {C : Program × World} {H H' : Hp} {xs : List (NestedKey × Addr × Value)} {es : List (NestedKey × PyData)} (h : DN C H xs es) (e : Fm H H') : DN C H' xs es := ⟨h.nd, Paired.mapP h.ent fun _ _ ⟨a, b, v, c, d⟩ => ⟨a, b.mono e, v, c, d.mono e⟩⟩
theorem DN.flat {C : Program × World} {H : Hp} : ∀ {xs : List (NestedKey × Addr × Value)} {es : List (NestedKey × PyData)}, Paired (fun x e => x.1 = e.1 ∧ R C H (.ref x.2.1) (nkD x.1) ∧ ∃ v, RelV v x.2.2 ∧ R C H v e.2) xs es →
    xs.map (·.1) = es.map (·.1) ∧ (∀ x ∈ xs, R C H (.ref x.2.1) (nkD x.1)) ∧ ∃ vs, Vals vs (xs.map (·.2.2)) ∧ RA C H vs (es.map (·.2))
  | _, _, .nil => ⟨rfl, fun _ h => (nomatch h), [], .nil, .nil⟩
  | _, _, .cons ⟨a, b, v, c, d⟩ t => by
    obtain ⟨h1, h2, vs, h3, h4⟩ := DN.flat t
    refine ⟨by rw [List.map_cons, List.map_cons, a, h1], fun x hx => ?_, v :: vs, .cons c h3, .cons d h4⟩
    rcases List.mem_cons.mp hx with rfl | hx
    · exact b
    · exact h2 x hx
theorem DN.of {C : Program × World} {H : Hp} : ∀ {xs : List (NestedKey × Addr × Value)} {vs : List V} {es : List (NestedKey × PyData)}, xs.map (·.1) = es.map (·.1) → (∀ x ∈ xs, R C H (.ref x.2.1) (nkD x.1)) → Vals vs (xs.map (·.2.2)) → RA C H vs (es.map (·.2)) →
    Paired (fun x e => x.1 = e.1 ∧ R C H (.ref x.2.1) (nkD x.1) ∧ ∃ v, RelV v x.2.2 ∧ R C H v e.2) xs es
  | [], _, [], _, _, _, _ => .nil
  | [], _, _ :: _, e, _, _, _ => by simp at e
  | _ :: _, _, [], e, _, _, _ => by simp at e
  | x :: xs, _, q :: es, e, h, v, r => by
    simp only [List.map_cons, List.cons.injEq] at e
    cases v with
    | cons v1 v2 => cases r with
      | cons a b => exact .cons ⟨e.1, h x (List.mem_cons_self ..), _, v1, a⟩ (DN.of e.2 (fun y hy => h y (List.mem_cons_of_mem _ hy)) v2 b)
/-- the object at p, its addresses F -/
def Rep (C : Program × World) (H : Hp) (p : Addr) (F : List Addr) : Ob → Prop
  | .lst ds => F = [p] ∧ ∃ vs, H p = some (.lst vs) ∧ RA C H vs ds
  | .dK es => F = [p] ∧ ∃ kvs, H p = some (.dK kvs) ∧ KR C H kvs es
  | .dN es => F = [p] ∧ ∃ xs, H p = some (HT.tiedO C.1 C.2 p xs) ∧ DN C H xs es
  | .pool pre gr post => ∃ g vs ws us, F = [p, g] ∧ p ≠ g ∧ H p = some (.lst (vs ++ .ref g :: us)) ∧ H g = some (.lst ws) ∧ RA C H vs pre ∧ RA C H ws gr ∧ RA C H us post
section
variable {C : Program × World} {H H' : Hp} {p : Addr} {F : List Addr} {o : Ob}
theorem Rep.nf (h : Rep C H p F o) : ∀ a ∈ F, ∃ u, H a = some u ∧ NF u := by
  intro a ha
  cases o with
  | lst ds =>
    obtain ⟨rfl, vs, e, _⟩ := h
    rw [List.mem_singleton.mp ha]
    exact ⟨_, e, trivial⟩
  | dK es =>
    obtain ⟨rfl, vs, e, _⟩ := h
    rw [List.mem_singleton.mp ha]
    exact ⟨_, e, trivial⟩
  | dN es =>
    obtain ⟨rfl, xs, e, _⟩ := h
    rw [List.mem_singleton.mp ha]
    exact ⟨_, e, trivial⟩
  | pool pre gr post =>
    obtain ⟨g, vs, ws, us, rfl, _, e, e2, _⟩ := h
    rcases List.mem_cons.mp ha with rfl | ha
    · exact ⟨_, e, trivial⟩
    · rw [List.mem_singleton.mp ha]
      exact ⟨_, e2, trivial⟩
theorem Rep.self (h : Rep C H p F o) : p ∈ F := by
  cases o with
  | lst ds =>
    rw [h.1]
    simp
  | dK es =>
    rw [h.1]
    simp
  | dN es =>
    rw [h.1]
    simp
  | pool a b c =>
    obtain ⟨g, vs, ws, us, e, _⟩ := h
    rw [e]
    simp
theorem Rep.keep (h : Rep C H p F o) (k : ∀ a ∈ F, H' a = H a) (e : Fm H H') : Rep C H' p F o := by
  cases o with
  | lst ds =>
    obtain ⟨rfl, vs, h1, h2⟩ := h
    exact ⟨rfl, vs, by rw [k p (by simp)]; exact h1, h2.mono e⟩
  | dK es =>
    obtain ⟨rfl, vs, h1, h2⟩ := h
    exact ⟨rfl, vs, by rw [k p (by simp)]; exact h1, h2.mono e⟩
  | dN es =>
    obtain ⟨rfl, xs, h1, h2⟩ := h
    exact ⟨rfl, xs, by rw [k p (by simp)]; exact h1, h2.mono e⟩
  | pool pre gr post =>
    obtain ⟨g, vs, ws, us, rfl, n, h1, h2, h3, h4, h5⟩ := h
    exact ⟨g, vs, ws, us, rfl, n, by rw [k p (by simp)]; exact h1, by rw [k g (by simp)]; exact h2, h3.mono e, h4.mono e, h5.mono e⟩
end
/-- what a slot says -/
def SlOk (C : Program × World) (B : List (Addr × List Addr)) (H0 H : Hp) (F : List Addr) (v : Option V) : Sl → Prop
  | .non => True
  | .dat d => ∃ x, v = some x ∧ R C H x d
  | .own o => ∃ p, v = some (.ref p) ∧ Rep C H p F o ∧ ∀ a ∈ F, H0 a = none
  | .par k o => ∃ p, v = some (.ref p) ∧ Rep C H p F o ∧ B[k]? = some (p, F)
structure SR (C : Program × World) (B : List (Addr × List Addr)) (H0 : Hp) (σ : L2.St) (H : Hp) (ρ : Env) : Prop where
  len : σ.length = ρ.length
  off : ∀ a u, H0 a = some u → (∀ b ∈ B, a ∉ b.2) → H a = some u
  grow : ∀ a, H a = none → H0 a = none
  fm : Fm H0 H
  bx : ∀ b ∈ B, ∀ a ∈ b.2, H0 a ≠ none
  rep : ∃ F : Nat → List Addr, (∀ i s v, ρ[i]? = some s → σ[i]? = some v → SlOk C B H0 H (F i) v s) ∧ ∀ i j s t, i ≠ j → ρ[i]? = some s → ρ[j]? = some t → s.ob.isSome = true → t.ob.isSome = true → ∀ a ∈ F i, a ∉ F j
section
variable {C : Program × World} {B : List (Addr × List Addr)} {H0 H H' : Hp} {σ : L2.St} {ρ : Env} {F : List Addr} {v : Option V} {s : Sl}
theorem SlOk.keep (h : SlOk C B H0 H F v s) (k : s.ob.isSome = true → ∀ a ∈ F, H' a = H a) (e : Fm H H') : SlOk C B H0 H' F v s := by
  cases s with
  | non => trivial
  | dat d =>
    obtain ⟨x, e1, r⟩ := h
    exact ⟨x, e1, r.mono e⟩
  | own o =>
    obtain ⟨p, e1, r, q⟩ := h
    exact ⟨p, e1, r.keep (k rfl) e, q⟩
  | par n o =>
    obtain ⟨p, e1, r, q⟩ := h
    exact ⟨p, e1, r.keep (k rfl) e, q⟩
theorem SlOk.there (h : SlOk C B H0 H F v s) (hs : s.ob.isSome = true) : ∀ a ∈ F, ∃ u, H a = some u := by
  intro a ha
  cases s with
  | non => cases hs
  | dat d => cases hs
  | own o =>
    obtain ⟨p, e1, r, q⟩ := h
    obtain ⟨u, e, _⟩ := r.nf a ha
    exact ⟨u, e⟩
  | par n o =>
    obtain ⟨p, e1, r, q⟩ := h
    obtain ⟨u, e, _⟩ := r.nf a ha
    exact ⟨u, e⟩
/-- the heap grows -/
theorem SR.same (h : SR C B H0 σ H ρ) (e : Same H H') : SR C B H0 σ H' ρ := by
  obtain ⟨F, hF, hd⟩ := h.rep
  refine ⟨h.len, fun a u x y => e a u (h.off a u x y), fun a x => h.grow a ?_, h.fm.trans (.of e), h.bx, F, fun i s v x y => (hF i s v x y).keep (fun z a ha => ?_) (.of e), hd⟩
  · cases q : H a with
    | none => rfl
    | some u => rw [e a u q] at x; cases x
  · obtain ⟨u, q⟩ := (hF i s v x y).there z a ha
    rw [q, e a u q]
theorem SR.get (h : SR C B H0 σ H ρ) {i : Nat} {s : Sl} (e : ρ[i]? = some s) : ∃ v, σ[i]? = some v := by
  have := (List.getElem?_eq_some_iff.mp e).1
  rw [← h.len] at this
  exact ⟨_, List.getElem?_eq_getElem this⟩
theorem SR.dat (h : SR C B H0 σ H ρ) {i : Nat} {d : PyData} (e : ρ[i]? = some (.dat d)) : ∃ v, σ[i]? = some (some v) ∧ R C H v d := by
  obtain ⟨v, hv⟩ := h.get e
  obtain ⟨F, hF, _⟩ := h.rep
  obtain ⟨x, rfl, r⟩ := hF i _ v e hv
  exact ⟨x, hv, r⟩
/-- a slot gets data -/
theorem SR.setDat (h : SR C B H0 σ H ρ) {i : Nat} {v : V} {d : PyData} (r : R C H v d) : SR C B H0 (σ.set i (some v)) H (ρ.set i (.dat d)) := by
  obtain ⟨F, hF, hd⟩ := h.rep
  refine ⟨by rw [List.length_set, List.length_set]; exact h.len, h.off, h.grow, h.fm, h.bx, F, fun j s w x y => ?_, fun j k s t n x y hs ht => ?_⟩
  · rw [List.getElem?_set] at x y
    by_cases e : i = j
    · rw [if_pos e] at x y
      split at x
      · split at y
        · cases x
          cases y
          exact ⟨v, rfl, r⟩
        · cases y
      · cases x
    · rw [if_neg e] at x y
      exact hF j s w x y
  · rw [List.getElem?_set] at x y
    have nx : ∀ m u, (if i = m then if i < ρ.length then some (Sl.dat d) else none else ρ[m]?) = some u → u.ob.isSome = true → ρ[m]? = some u := fun m u z hu => by
      by_cases e : i = m
      · rw [if_pos e] at z
        split at z
        · cases z
          cases hu
        · cases z
      · rw [if_neg e] at z
        exact z
    exact hd j k s t n (nx j s x hs) (nx k t y ht) hs ht
/-- a slot is forgotten -/
theorem SR.setNon (h : SR C B H0 σ H ρ) {i : Nat} {v : Option V} : SR C B H0 (σ.set i v) H (ρ.set i .non) := by
  obtain ⟨F, hF, hd⟩ := h.rep
  refine ⟨by rw [List.length_set, List.length_set]; exact h.len, h.off, h.grow, h.fm, h.bx, F, fun j s w x y => ?_, fun j k s t n x y hs ht => ?_⟩
  · rw [List.getElem?_set] at x y
    by_cases e : i = j
    · rw [if_pos e] at x y
      split at x
      · cases x
        trivial
      · cases x
    · rw [if_neg e] at x y
      exact hF j s w x y
  · rw [List.getElem?_set] at x y
    have nx : ∀ m u, (if i = m then if i < ρ.length then some Sl.non else none else ρ[m]?) = some u → u.ob.isSome = true → ρ[m]? = some u := fun m u z hu => by
      by_cases e : i = m
      · rw [if_pos e] at z
        split at z
        · cases z
          cases hu
        · cases z
      · rw [if_neg e] at z
        exact z
    exact hd j k s t n (nx j s x hs) (nx k t y ht) hs ht
/-- one more slot -/
theorem push_rep {s : Sl} {v : Option V} {G : List Addr} {F : Nat → List Addr} (hl : σ.length = ρ.length) (hF : ∀ i s v, ρ[i]? = some s → σ[i]? = some v → SlOk C B H0 H (F i) v s)
    (hdj : ∀ i j s t, i ≠ j → ρ[i]? = some s → ρ[j]? = some t → s.ob.isSome = true → t.ob.isSome = true → ∀ a ∈ F i, a ∉ F j) (hs : SlOk C B H0 H G v s)
    (hd : s.ob.isSome = true → ∀ a ∈ G, ∀ i t, ρ[i]? = some t → t.ob.isSome = true → a ∉ F i) :
    ∃ F : Nat → List Addr, (∀ i t w, (ρ ++ [s])[i]? = some t → (σ ++ [v])[i]? = some w → SlOk C B H0 H (F i) w t) ∧ ∀ i j t u, i ≠ j → (ρ ++ [s])[i]? = some t → (ρ ++ [s])[j]? = some u → t.ob.isSome = true → u.ob.isSome = true → ∀ a ∈ F i, a ∉ F j := by
  refine ⟨fun i => if i = ρ.length then G else F i, fun i t w x y => ?_, fun i j t u n x y ht hu a ha => ?_⟩
  · dsimp only
    by_cases e : i = ρ.length
    · rw [if_pos e]
      subst e
      rw [List.getElem?_append_right (Nat.le_refl _), Nat.sub_self] at x
      rw [← hl, List.getElem?_append_right (Nat.le_refl _), Nat.sub_self] at y
      cases x
      cases y
      exact hs
    · rw [if_neg e]
      have hi : i < ρ.length := by
        have := (List.getElem?_eq_some_iff.mp x).1
        rw [List.length_append, List.length_singleton] at this
        omega
      rw [List.getElem?_append_left hi] at x
      rw [List.getElem?_append_left (by omega)] at y
      exact hF i t w x y
  · dsimp only at ha ⊢
    have lt : ∀ {m : Nat} {r : Sl}, (ρ ++ [s])[m]? = some r → m ≠ ρ.length → m < ρ.length := fun {m r} z ne => by
      have := (List.getElem?_eq_some_iff.mp z).1
      rw [List.length_append, List.length_singleton] at this
      omega
    by_cases e : i = ρ.length
    · rw [if_pos e] at ha
      have hj := lt y (by omega)
      rw [if_neg (by omega)]
      have x' : (ρ ++ [s])[ρ.length]? = some t := by rw [← e]; exact x
      rw [List.getElem?_append_right (Nat.le_refl _), Nat.sub_self] at x'
      cases x'
      rw [List.getElem?_append_left hj] at y
      exact hd ht a ha j u y hu
    · rw [if_neg e] at ha
      have hi := lt x e
      rw [List.getElem?_append_left hi] at x
      by_cases e2 : j = ρ.length
      · rw [if_pos e2]
        have y' : (ρ ++ [s])[ρ.length]? = some u := by rw [← e2]; exact y
        rw [List.getElem?_append_right (Nat.le_refl _), Nat.sub_self] at y'
        cases y'
        intro hg
        exact hd hu a hg i t x ht ha
      · rw [if_neg e2]
        have hj := lt y e2
        rw [List.getElem?_append_left hj] at y
        exact hdj i j t u n x y ht hu a ha
theorem SR.pushDat (h : SR C B H0 σ H ρ) {v : V} {d : PyData} (r : R C H v d) : SR C B H0 (σ ++ [some v]) H (ρ ++ [.dat d]) := by
  obtain ⟨F, hF, hd⟩ := h.rep
  exact ⟨by simp [h.len], h.off, h.grow, h.fm, h.bx, push_rep h.len hF hd (G := []) ⟨v, rfl, r⟩ (fun z => nomatch z)⟩
/-- a new object, nobody else's -/
theorem SR.pushNew (h : SR C B H0 σ H ρ) {p : Addr} {u : HO} {o : Ob} (hp : H p = none) (hr : Rep C (L2.upd H p u) p [p] o) : SR C B H0 (σ ++ [some (.ref p)]) (L2.upd H p u) (ρ ++ [.own o]) := by
  obtain ⟨F, hF, hd⟩ := h.rep
  have e := same_new (o := u) hp
  have h' := h.same e
  have hF' : ∀ i s v, ρ[i]? = some s → σ[i]? = some v → SlOk C B H0 (L2.upd H p u) (F i) v s := fun i s v x y => (hF i s v x y).keep (fun z a ha => by
    obtain ⟨u', q⟩ := (hF i s v x y).there z a ha
    rw [q, e a u' q]) (.of e)
  refine ⟨by simp [h.len], h'.off, h'.grow, h'.fm, h'.bx, push_rep h.len hF' hd (G := [p]) ⟨p, rfl, hr, fun a ha => by rw [List.mem_singleton.mp ha]; exact h.grow p hp⟩ fun _ a ha i t x ht hm => ?_⟩
  rw [List.mem_singleton.mp ha] at hm
  obtain ⟨w, hw⟩ := h.get x
  obtain ⟨u', q⟩ := (hF i t _ x hw).there ht p hm
  rw [hp] at q
  cases q
/-- the last slot is dropped -/
theorem SR.pop {v : Option V} {s : Sl} (h : SR C B H0 (σ ++ [v]) H (ρ ++ [s])) : SR C B H0 σ H ρ := by
  obtain ⟨F, hF, hd⟩ := h.rep
  have hl := h.len
  rw [List.length_append, List.length_append, List.length_singleton, List.length_singleton] at hl
  have up : ∀ {i : Nat} {t : Sl}, ρ[i]? = some t → (ρ ++ [s])[i]? = some t := fun {i t} x => by rw [List.getElem?_append_left (List.getElem?_eq_some_iff.mp x).1]; exact x
  exact ⟨by omega, h.off, h.grow, h.fm, h.bx, F, fun i t w x y => hF i t w (up x) (by rw [List.getElem?_append_left (List.getElem?_eq_some_iff.mp y).1]; exact y), fun i j t u n x y => hd i j t u n (up x) (up y)⟩
/-- the last slot's own object goes to slot i -/
theorem SR.setOwn {p : Addr} {o : Ob} (h : SR C B H0 (σ ++ [some (.ref p)]) H (ρ ++ [.own o])) (i : Nat) : SR C B H0 (σ.set i (some (.ref p))) H (ρ.set i (.own o)) := by
  obtain ⟨F, hF, hd⟩ := h.rep
  have hl := h.len
  rw [List.length_append, List.length_append, List.length_singleton, List.length_singleton] at hl
  have up : ∀ {i : Nat} {t : Sl}, ρ[i]? = some t → (ρ ++ [.own o])[i]? = some t := fun {i t} x => by rw [List.getElem?_append_left (List.getElem?_eq_some_iff.mp x).1]; exact x
  have last : (ρ ++ [.own o])[ρ.length]? = some (.own o) := by rw [List.getElem?_append_right (Nat.le_refl _), Nat.sub_self]; rfl
  have lastV : (σ ++ [some (V.ref p)])[ρ.length]? = some (some (.ref p)) := by rw [List.getElem?_append_right (by omega), show ρ.length - σ.length = 0 by omega]; rfl
  refine ⟨by rw [List.length_set, List.length_set]; omega, h.off, h.grow, h.fm, h.bx, fun j => if j = i then F ρ.length else F j, fun j t w x y => ?_, fun j k t u n x y ht hu a ha => ?_⟩
  · dsimp only
    rw [List.getElem?_set] at x y
    by_cases e : i = j
    · rw [if_pos e] at x y
      rw [if_pos e.symm]
      split at x
      · split at y
        · cases x
          cases y
          exact hF _ _ _ last lastV
        · cases y
      · cases x
    · rw [if_neg e] at x y
      rw [if_neg (fun z => e z.symm)]
      exact hF j t w (up x) (by rw [List.getElem?_append_left (List.getElem?_eq_some_iff.mp y).1]; exact y)
  · dsimp only at ha ⊢
    rw [List.getElem?_set] at x y
    by_cases e : j = i
    · rw [if_pos e] at ha
      rw [if_neg (by omega)]
      rw [if_neg (by omega)] at y
      refine hd _ _ _ _ (fun z => ?_) last (up y) rfl hu a ha
      have := (List.getElem?_eq_some_iff.mp y).1
      omega
    · rw [if_neg e] at ha
      rw [if_neg (by omega)] at x
      by_cases e2 : k = i
      · rw [if_pos e2]
        refine hd _ _ _ _ (fun z => ?_) (up x) last ht rfl a ha
        have := (List.getElem?_eq_some_iff.mp x).1
        omega
      · rw [if_neg e2]
        rw [if_neg (by omega)] at y
        exact hd j k t u n (up x) (up y) ht hu a ha
theorem Sl.put_ob {o : Ob} {s : Sl} (h : (s.put o).ob.isSome = true) : s.ob.isSome = true := by
  cases s <;> first | rfl | exact h
/-- the object of slot i is changed -/
theorem SR.write (h : SR C B H0 σ H ρ) {i : Nat} {s : Sl} {p : Addr} {o o' : Ob} (hs : ρ[i]? = some s) (hk : s = .own o ∨ ∃ k, s = .par k o) (hp : σ[i]? = some (some (.ref p)))
    (q : ∀ F, Rep C H p F o → (∀ a, a ∉ F → H' a = H a) ∧ Rep C H' p F o') : SR C B H0 σ H' (ρ.set i (s.put o')) := by
  obtain ⟨F, hF, hd⟩ := h.rep
  have ok := hF i s _ hs hp
  have hob : s.ob.isSome = true := by rcases hk with rfl | ⟨k, rfl⟩ <;> rfl
  have hr : Rep C H p (F i) o ∧ ((∀ a ∈ F i, H0 a = none) ∨ ∃ k : Nat, B[k]? = some (p, F i)) := by
    rcases hk with rfl | ⟨k, rfl⟩
    · obtain ⟨p', e, r, n⟩ := ok
      cases e
      exact ⟨r, .inl n⟩
    · obtain ⟨p', e, r, n⟩ := ok
      cases e
      exact ⟨r, .inr ⟨k, n⟩⟩
  obtain ⟨hh, hr'⟩ := q _ hr.1
  have hfm : Fm H H' := by
    intro a od xs e
    by_cases m : a ∈ F i
    · obtain ⟨u, e2, nf⟩ := hr.1.nf a m
      rw [e] at e2
      cases e2
      exact nf.elim
    · rw [hh a m]
      exact e
  refine ⟨by rw [List.length_set]; exact h.len, fun a u x y => ?_, fun a x => ?_, h.fm.trans hfm, h.bx, F, fun j t w x y => ?_, fun j k t u n x y ht hu => ?_⟩
  · rw [hh a fun m => ?_]
    · exact h.off a u x y
    · rcases hr.2 with n | ⟨k, n⟩
      · rw [n a m] at x
        cases x
      · exact y _ (List.mem_of_getElem? n) m
  · by_cases m : a ∈ F i
    · obtain ⟨u, e, _⟩ := hr'.nf a m
      rw [e] at x
      cases x
    · rw [hh a m] at x
      exact h.grow a x
  · rw [List.getElem?_set] at x
    by_cases e : i = j
    · rw [if_pos e] at x
      subst e
      split at x
      · cases x
        rw [hp] at y
        cases y
        rcases hk with rfl | ⟨k, rfl⟩
        · obtain ⟨p', e, r, n⟩ := ok
          exact ⟨p, rfl, hr', n⟩
        · obtain ⟨p', e, r, n⟩ := ok
          cases e
          exact ⟨p, rfl, hr', n⟩
      · cases x
    · rw [if_neg e] at x
      exact (hF j t w x y).keep (fun z a ha => hh a (hd j i t s (fun z => e z.symm) x hs z hob a ha)) hfm
  · have nx : ∀ (m : Nat) (v : Sl), (ρ.set i (s.put o'))[m]? = some v → v.ob.isSome = true → ∃ v' : Sl, ρ[m]? = some v' ∧ v'.ob.isSome = true := fun m v z hv => by
      rw [List.getElem?_set] at z
      by_cases e : i = m
      · rw [if_pos e] at z
        split at z
        · cases z
          exact ⟨s, by rw [← e]; exact hs, hob⟩
        · cases z
      · rw [if_neg e] at z
        exact ⟨v, z, hv⟩
    obtain ⟨t', x', ht'⟩ := nx j t x ht
    obtain ⟨u', y', hu'⟩ := nx k u y hu
    exact hd j k t' u' n x' y' ht' hu'
theorem frz_fm {p : Addr} {u : HO} {od : Obj} (hp : H p = some u) (nf : NF u) : Fm H (L2.upd H p (.frz od u)) := by
  intro a o v e
  rw [upd_ne (fun z => by rw [z, hp] at e; cases e; exact nf)]
  exact e
/-- what an object is once it is known -/
theorem Rep.frz {p : Addr} {F : List Addr} {o : Ob} {d : PyData} (h : Rep C H p F o) (hd : o.data = some d) : F = [p] ∧ ∃ u, H p = some u ∧ NF u ∧ Mut (some u) ∧ ∀ od, R C (L2.upd H p (.frz od u)) (.ref p) d := by
  cases o with
  | lst ds =>
    cases hd
    obtain ⟨eF, vs, h1, h2⟩ := h
    exact ⟨eF, _, h1, trivial, trivial, fun od => .lst ⟨od, upd_same⟩ (h2.mono (frz_fm h1 trivial))⟩
  | dK es =>
    cases hd
    obtain ⟨eF, vs, h1, h2⟩ := h
    exact ⟨eF, _, h1, trivial, trivial, fun od => .dK upd_same h2.flat.1 (h2.flat.2.mono (frz_fm h1 trivial)) rfl⟩
  | dN es =>
    cases hd
    obtain ⟨eF, xs, h1, h2⟩ := h
    obtain ⟨a, b, vs, c, d⟩ := DN.flat h2.ent
    exact ⟨eF, _, h1, trivial, trivial, fun od => .dN upd_same h2.nd a (fun x hx => (b x hx).mono (frz_fm h1 trivial)) c (d.mono (frz_fm h1 trivial)) rfl⟩
  | pool a b c => cases hd
/-- the last slot's own object becomes known -/
theorem SR.freeze {p : Addr} {o : Ob} {d : PyData} {u : HO} {od : Obj} (h : SR C B H0 (σ ++ [some (.ref p)]) H (ρ ++ [.own o])) (hd : o.data = some d) (hp : H p = some u) :
    SR C B H0 σ (L2.upd H p (.frz od u)) ρ ∧ R C (L2.upd H p (.frz od u)) (.ref p) d ∧ Fm H (L2.upd H p (.frz od u)) := by
  have hl := h.len
  rw [List.length_append, List.length_append, List.length_singleton, List.length_singleton] at hl
  obtain ⟨F, hF, hdj⟩ := h.rep
  have last : (ρ ++ [Sl.own o])[ρ.length]? = some (.own o) := by rw [List.getElem?_append_right (Nat.le_refl _), Nat.sub_self]; rfl
  have lastV : (σ ++ [some (V.ref p)])[ρ.length]? = some (some (.ref p)) := by rw [List.getElem?_append_right (by omega), show ρ.length - σ.length = 0 by omega]; rfl
  obtain ⟨p', e, hr, n⟩ := hF _ _ _ last lastV
  cases e
  obtain ⟨eF, u', hp', nf, _, hR⟩ := hr.frz hd
  rw [hp] at hp'
  cases hp'
  have fm : Fm H (L2.upd H p (.frz od u)) := frz_fm hp nf
  refine ⟨?_, hR od, fm⟩
  have up : ∀ {i : Nat} {t : Sl}, ρ[i]? = some t → (ρ ++ [.own o])[i]? = some t := fun {i t} x => by rw [List.getElem?_append_left (List.getElem?_eq_some_iff.mp x).1]; exact x
  have h0 : H0 p = none := n p (by rw [eF]; simp)
  refine ⟨by omega, fun a u x y => ?_, fun a x => ?_, h.fm.trans fm, h.bx, F, fun i t w x y => ?_, fun i j t u n x y => hdj i j t u n (up x) (up y)⟩
  · rw [upd_ne (fun z => by rw [z, h0] at x; cases x)]
    exact h.off a u x y
  · by_cases z : a = p
    · rw [z, upd_same] at x
      cases x
    · rw [upd_ne z] at x
      exact h.grow a x
  · have x' := up x
    refine (hF i t w x' (by rw [List.getElem?_append_left (List.getElem?_eq_some_iff.mp y).1]; exact y)).keep (fun z a ha => upd_ne fun q => ?_) fm
    have := (List.getElem?_eq_some_iff.mp x).1
    exact hdj i ρ.length t _ (by omega) x' last z rfl a ha (by rw [q, eF]; simp)
/-- a slot's own object becomes known -/
theorem SR.freezeAt (h : SR C B H0 σ H ρ) {i : Nat} {p : Addr} {o : Ob} {d : PyData} {u : HO} {od : Obj} (e : ρ[i]? = some (.own o)) (es : σ[i]? = some (some (.ref p))) (hd : o.data = some d) (hp : H p = some u) :
    SR C B H0 σ (L2.upd H p (.frz od u)) (ρ.set i (.dat d)) ∧ R C (L2.upd H p (.frz od u)) (.ref p) d ∧ Fm H (L2.upd H p (.frz od u)) := by
  obtain ⟨F, hF, hdj⟩ := h.rep
  obtain ⟨p', e1, hr, n⟩ := hF _ _ _ e es
  cases e1
  obtain ⟨eF, u', hp', nf, _, hR⟩ := hr.frz hd
  rw [hp] at hp'
  cases hp'
  have fm : Fm H (L2.upd H p (.frz od u)) := frz_fm hp nf
  refine ⟨?_, hR od, fm⟩
  have h0 : H0 p = none := n p (by rw [eF]; simp)
  refine ⟨by rw [List.length_set]; exact h.len, fun a u x y => ?_, fun a x => ?_, h.fm.trans fm, h.bx, F, fun j t w x y => ?_, fun j k t u n x y ht hu => ?_⟩
  · rw [upd_ne (fun z => by rw [z, h0] at x; cases x)]
    exact h.off a u x y
  · by_cases z : a = p
    · rw [z, upd_same] at x
      cases x
    · rw [upd_ne z] at x
      exact h.grow a x
  · rw [List.getElem?_set] at x
    by_cases q : i = j
    · rw [if_pos q] at x
      subst q
      split at x
      · cases x
        rw [es] at y
        cases y
        exact ⟨_, rfl, hR od⟩
      · cases x
    · rw [if_neg q] at x
      refine (hF j t w x y).keep (fun z a ha => upd_ne fun q2 => ?_) fm
      exact hdj j i t _ (fun z => q z.symm) x e z rfl a ha (by rw [q2, eF]; simp)
  · have nx : ∀ (m : Nat) (v : Sl), (ρ.set i (.dat d))[m]? = some v → v.ob.isSome = true → ρ[m]? = some v := fun m v z hv => by
      rw [List.getElem?_set] at z
      by_cases q : i = m
      · rw [if_pos q] at z
        split at z
        · cases z
          cases hv
        · cases z
      · rw [if_neg q] at z
        exact z
    exact hdj j k t u n (nx j t x ht) (nx k u y hu) ht hu
/-! something new is set aside while other things are done -/
def holdH (F : List Addr) (H H0 : Hp) : Hp := fun a => if a ∈ F then H a else H0 a
theorem SR.hold {p : Addr} {o : Ob} (h : SR C B H0 (σ ++ [some (.ref p)]) H (ρ ++ [.own o])) : ∃ F, Rep C H p F o ∧ (∀ a ∈ F, H0 a = none) ∧ SR C B (holdH F H H0) σ H ρ := by
  have hl := h.len
  rw [List.length_append, List.length_append, List.length_singleton, List.length_singleton] at hl
  obtain ⟨F, hF, hdj⟩ := h.rep
  have last : (ρ ++ [Sl.own o])[ρ.length]? = some (.own o) := by rw [List.getElem?_append_right (Nat.le_refl _), Nat.sub_self]; rfl
  have lastV : (σ ++ [some (V.ref p)])[ρ.length]? = some (some (.ref p)) := by rw [List.getElem?_append_right (by omega), show ρ.length - σ.length = 0 by omega]; rfl
  obtain ⟨p', e, hr, n⟩ := hF _ _ _ last lastV
  cases e
  have up : ∀ {i : Nat} {t : Sl}, ρ[i]? = some t → (ρ ++ [.own o])[i]? = some t := fun {i t} x => by rw [List.getElem?_append_left (List.getElem?_eq_some_iff.mp x).1]; exact x
  refine ⟨F ρ.length, hr, n, by omega, fun a u x y => ?_, fun a x => ?_, fun a od u x => ?_, fun b hb a ha => ?_, F, fun i t w x y => ?_, fun i j t u n x y => hdj i j t u n (up x) (up y)⟩
  · unfold holdH at x
    split at x
    · exact x
    · exact h.off a u x y
  · unfold holdH
    split
    · exact x
    · exact h.grow a x
  · unfold holdH at x
    split at x
    · exact x
    · exact h.fm a od u x
  · unfold holdH
    split
    · next hm => exact fun z => h.bx b hb a ha (n a hm)
    · exact h.bx b hb a ha
  · have ok := hF i t w (up x) (by rw [List.getElem?_append_left (List.getElem?_eq_some_iff.mp y).1]; exact y)
    have hi := (List.getElem?_eq_some_iff.mp x).1
    cases t with
    | non => trivial
    | dat d => exact ok
    | own o' =>
      obtain ⟨q, e1, r, m⟩ := ok
      refine ⟨q, e1, r, fun a ha => ?_⟩
      unfold holdH
      rw [if_neg (hdj i ρ.length _ _ (by omega) (up x) last rfl rfl a ha)]
      exact m a ha
    | par k o' => exact ok
theorem SR.unhold {F : List Addr} {p : Addr} {o : Ob} (h : SR C B (holdH F H H0) σ H' ρ) (hr : Rep C H p F o) (n : ∀ a ∈ F, H0 a = none) (hm0 : Fm H0 H) (f : Fm H H') (hbx : ∀ b ∈ B, ∀ a ∈ b.2, H0 a ≠ none) : SR C B H0 (σ ++ [some (.ref p)]) H' (ρ ++ [.own o]) := by
  have keep : ∀ a ∈ F, H' a = H a := fun a ha => by
    obtain ⟨u, e, _⟩ := hr.nf a ha
    rw [e]
    refine h.off a u (by unfold holdH; rw [if_pos ha]; exact e) fun b hb ha' => hbx b hb a ha' (n a ha)
  obtain ⟨G, hG, hdj⟩ := h.rep
  have some_of : ∀ a ∈ F, holdH F H H0 a ≠ none := fun a ha => by
    obtain ⟨u, e, _⟩ := hr.nf a ha
    unfold holdH
    rw [if_pos ha, e]
    exact fun z => nomatch z
  have ok' : ∀ i s v, ρ[i]? = some s → σ[i]? = some v → SlOk C B H0 H' (G i) v s ∧ (s.ob.isSome = true → ∀ a ∈ G i, a ∉ F) := fun i s v x y => by
    have ok := hG i s v x y
    cases s with
    | non => exact ⟨trivial, fun z => nomatch z⟩
    | dat d => exact ⟨ok, fun z => nomatch z⟩
    | own o' =>
      obtain ⟨q, e1, r, m⟩ := ok
      have nF : ∀ a ∈ G i, a ∉ F := fun a ha hf => some_of a hf (m a ha)
      refine ⟨⟨q, e1, r, fun a ha => ?_⟩, fun _ => nF⟩
      have := m a ha
      unfold holdH at this
      rw [if_neg (nF a ha)] at this
      exact this
    | par k o' =>
      obtain ⟨q, e1, r, m⟩ := ok
      exact ⟨⟨q, e1, r, m⟩, fun _ a ha hf => hbx _ (List.mem_of_getElem? m) a ha (n a hf)⟩
  refine ⟨by simp [h.len], fun a u x y => ?_, fun a x => ?_, hm0.trans f, hbx, push_rep h.len (fun i s v x y => (ok' i s v x y).1) hdj (G := F) ⟨p, rfl, hr.keep keep f, n⟩ fun _ a ha i t x ht hg => ?_⟩
  · refine h.off a u ?_ y
    unfold holdH
    rw [if_neg (fun z => by rw [n a z] at x; cases x)]
    exact x
  · by_cases hf : a ∈ F
    · exact n a hf
    · have := h.grow a x
      unfold holdH at this
      rw [if_neg hf] at this
      exact this
  · obtain ⟨v, hv⟩ := h.get x
    exact (ok' i t v x hv).2 ht a hg ha
end
end G
/-! the mirror's steps, and what it is for the mirror to tell what the text does -/
namespace G
open PySem PyProof.Rows L2 HD
inductive AV where
  | d (x : PyData)
  | b (i : Nat)
inductive Val where
  | d (x : PyData)
  | b (i : Nat)
  | fr (o : Ob)
/-- what an operation gives: data, or a new list -/
inductive Res where
  | d (x : PyData)
  | l (xs : List PyData)
def Res.val : Res → Val
  | .d x => .d x
  | .l xs => .fr (.lst xs)
def slotOb (ρ : Env) (i : Nat) : Option Ob := (ρ[i]?).bind Sl.ob
def AV.res (ρ : Env) : AV → Option PyData
  | .d x => some x
  | .b i => (slotOb ρ i).bind Ob.data
abbrev Mi (α : Type) := Env → Option (α × Env)
def Val.av : Val → Option AV
  | .d x => some (.d x)
  | .b i => some (.b i)
  | .fr o => o.data.map AV.d
def fz (m : Mi Val) : Mi AV := fun ρ => (m ρ).bind fun r => r.1.av.map fun a => (a, r.2)
def AvOk (C : Program × World) (σ : L2.St) (H : Hp) (v : V) : AV → Prop
  | .d x => R C H v x
  | .b i => σ[i]? = some (some v)
theorem AvOk.mono {C : Program × World} {σ : L2.St} {H H' : Hp} {v : V} {a : AV} (h : AvOk C σ H v a) (e : Fm H H') : AvOk C σ H' v a := by
  cases a with
  | d x => exact R.mono e h
  | b i => exact h
def tM (C : Program × World) (m : Mi AV) : TE := fun σ H Q => ∃ B H0 ρ a ρ', SR C B H0 σ H ρ ∧ m ρ = some (a, ρ') ∧ ∀ v H', SR C B H0 σ H' ρ' → AvOk C σ H' v a → Fm H H' → Q v H'
/-- what is wanted behind a value -/
def ValK (C : Program × World) (B : List (Addr × List Addr)) (H0 : Hp) (σ : L2.St) (H : Hp) (ρ : Env) (Q : VK) : Val → Prop
  | .d x => ∀ v H', SR C B H0 σ H' ρ → R C H' v x → Fm H H' → Q v H'
  | .b i => ∀ v H', SR C B H0 σ H' ρ → σ[i]? = some (some v) → Fm H H' → Q v H'
  | .fr o => ∀ p H', SR C B H0 (σ ++ [some (.ref p)]) H' (ρ ++ [.own o]) → Fm H H' → Q (.ref p) H'
def tX (C : Program × World) (m : Mi Val) : TE := fun σ H Q => ∃ B H0 ρ a ρ', SR C B H0 σ H ρ ∧ m ρ = some (a, ρ') ∧ ValK C B H0 σ H ρ' Q a
section
variable {X : Cx} {C : Program × World} {e : Expr}
theorem pe_wk {t t' : TE} (h : PE X e t) (w : ∀ σ H Q, t' σ H Q → t σ H Q) : PE X e t' := ⟨fun pins s σ H Q I z => h.run pins s σ H Q I (w σ H Q z)⟩
theorem pt_wk {t t' : TT} (h : PT X e t) (w : ∀ σ H Q, t' σ H Q → t σ H Q) : PT X e t' := ⟨fun pins s σ H Q I z => h.run pins s σ H Q I (w σ H Q z)⟩
theorem pw_wk {t t' : TT} (h : PW X e t) (w : ∀ σ H Q, t' σ H Q → t σ H Q) : PW X e t' := ⟨fun wh pins s σ H Q I z => h.run wh pins s σ H Q I (w σ H Q z)⟩
theorem SR.last {B : List (Addr × List Addr)} {H0 H : Hp} {σ : L2.St} {ρ : Env} {p : Addr} {o : Ob} (h : SR C B H0 (σ ++ [some (.ref p)]) H (ρ ++ [.own o])) : ∃ F, Rep C H p F o := by
  obtain ⟨F, hF, hd⟩ := h.rep
  have hl := h.len
  rw [List.length_append, List.length_append, List.length_singleton, List.length_singleton] at hl
  have last : (ρ ++ [Sl.own o])[ρ.length]? = some (.own o) := by rw [List.getElem?_append_right (Nat.le_refl _), Nat.sub_self]; rfl
  have lastV : (σ ++ [some (V.ref p)])[ρ.length]? = some (some (.ref p)) := by rw [List.getElem?_append_right (by omega), show ρ.length - σ.length = 0 by omega]; rfl
  obtain ⟨p', e, r, _⟩ := hF _ _ _ last lastV
  cases e
  exact ⟨_, r⟩
theorem fz_some {m : Mi Val} {ρ ρ' : Env} {a : AV} (h : fz m ρ = some (a, ρ')) : ∃ v, m ρ = some (v, ρ') ∧ v.av = some a := by
  unfold fz at h
  obtain ⟨r, h1, h2⟩ := Option.bind_eq_some_iff.mp h
  obtain ⟨a', h3, h4⟩ := Option.map_eq_some_iff.mp h2
  cases h4
  exact ⟨r.1, h1, h3⟩
/-- a new list becomes known -/
theorem pe_fz {m : Mi Val} (h : PE X e (tX C m)) : PE X e (tM C (fz m)) := by
  refine ⟨fun pins s σ H Q I z => ?_⟩
  obtain ⟨B, H0, ρ, a, ρ', sr, em, q⟩ := z
  obtain ⟨v, ev, ea⟩ := fz_some em
  cases v with
  | d x =>
    cases ea
    exact h.run pins s σ H Q I ⟨B, H0, ρ, .d x, ρ', sr, ev, q⟩
  | b i =>
    cases ea
    exact h.run pins s σ H Q I ⟨B, H0, ρ, .b i, ρ', sr, ev, q⟩
  | fr o =>
    obtain ⟨d, hd, rfl⟩ := Option.map_eq_some_iff.mp (show o.data.map AV.d = some a from ea)
    refine thn (h.run pins s σ H (fun v H' => ∃ p, v = .ref p ∧ SR C B H0 (σ ++ [some (.ref p)]) H' (ρ' ++ [.own o]) ∧ Fm H H') I ⟨B, H0, ρ, .fr o, ρ', sr, ev, fun p H' s' f => ⟨p, rfl, s', f⟩⟩) fun u s' ⟨v, H', I', r, p, e1, s1, f⟩ => ?_
    subst e1
    obtain ⟨F, hr⟩ := s1.last
    obtain ⟨_, u', hp, _, mu, _⟩ := hr.frz hd
    obtain ⟨od, I2⟩ := I'.lock hp mu
    obtain ⟨s2, r2, f2⟩ := s1.freeze (od := od) hd hp
    exact ⟨.ref p, _, I2, r, q _ _ s2 r2 (f.trans f2)⟩
/-! ### names, constants -/
def mVar (i : Nat) : Mi Val := fun ρ => match ρ[i]? with
  | some (.dat d) => some (.d d, ρ)
  | some (.own _) => some (.b i, ρ)
  | some (.par _ _) => some (.b i, ρ)
  | _ => none
theorem SR.obv {B : List (Addr × List Addr)} {H0 H : Hp} {σ : L2.St} {ρ : Env} (h : SR C B H0 σ H ρ) {i : Nat} {s : Sl} (e : ρ[i]? = some s) (hs : s.ob.isSome = true) : ∃ p, σ[i]? = some (some (.ref p)) := by
  obtain ⟨v, hv⟩ := h.get e
  obtain ⟨F, hF, _⟩ := h.rep
  have ok := hF i s v e hv
  cases s with
  | non => cases hs
  | dat d => cases hs
  | own o =>
    obtain ⟨p, rfl, _⟩ := ok
    exact ⟨p, hv⟩
  | par k o =>
    obtain ⟨p, rfl, _⟩ := ok
    exact ⟨p, hv⟩
theorem gx_var {i : Nat} {x : Str} {pos : Pos} (hN : X.N[i]? = some x) (hv : Vis X.env.scope x) (hd : (x == ("__debug__" : Str)) = false := by decide) (hcd : (x == ("__classdict__" : Str)) = false := by decide) : PE X (.Name x pos) (tX C (mVar i)) := by
  refine pe_wk (pe_var hN hv hd hcd) fun σ H Q ⟨B, H0, ρ, a, ρ', sr, em, q⟩ => ?_
  unfold mVar at em
  split at em
  · next d e =>
    cases em
    obtain ⟨v, e1, r⟩ := sr.dat e
    exact ⟨v, e1, q v H sr r (Fm.refl H)⟩
  · next o e =>
    cases em
    obtain ⟨p, e1⟩ := sr.obv e rfl
    exact ⟨_, e1, q _ H sr e1 (Fm.refl H)⟩
  · next k o e =>
    cases em
    obtain ⟨p, e1⟩ := sr.obv e rfl
    exact ⟨_, e1, q _ H sr e1 (Fm.refl H)⟩
  · cases em
def mC (d : PyData) : Mi Val := fun ρ => some (.d d, ρ)
theorem gx_int {i j pos} : PE X (.Constant (.int i) j pos) (tX C (mC (.int i))) := pe_wk pe_int fun σ H Q ⟨B, H0, ρ, a, ρ', sr, em, q⟩ => by
  cases em
  exact q _ H sr (.int i) (Fm.refl H)
theorem gx_bl {b j pos} : PE X (.Constant (.bool b) j pos) (tX C (mC (.bool b))) := pe_wk pe_bl fun σ H Q ⟨B, H0, ρ, a, ρ', sr, em, q⟩ => by
  cases em
  exact q _ H sr (.bl b) (Fm.refl H)
theorem gx_non {j pos} : PE X (.Constant .none j pos) (tX C (mC .none)) := pe_wk pe_non fun σ H Q ⟨B, H0, ρ, a, ρ', sr, em, q⟩ => by
  cases em
  exact q _ H sr .non (Fm.refl H)
theorem gx_str {x j pos} : PE X (.Constant (.str x) j pos) (tX C (mC (.str x))) := pe_wk pe_str fun σ H Q ⟨B, H0, ρ, a, ρ', sr, em, q⟩ => by
  cases em
  exact q _ H sr (.str x) (Fm.refl H)
/-- a module's whole number -/
theorem gx_globI {x : Str} {i : Int} {t : Tok} {pos : Pos} (hg : Gl X x) (hm : X.mg x = some (.int i t)) (hd : (x == ("__debug__" : Str)) = false := by decide) : PE X (.Name x pos) (tX C (mC (.int i))) :=
  pe_wk (pe_glob hg hm (v := .int i) ⟨t, rfl⟩ hd) fun σ H Q ⟨B, H0, ρ, a, ρ', sr, em, q⟩ => by
    cases em
    exact q _ H sr (.int i) (Fm.refl H)
end
/-! ### what may be read -/
inductive RV (C : Program × World) (K : PySem.W.Frag) (H : Hp) : V → PyData → Prop
  | of {v : V} {d : PyData} : R C H v d → RV C K H v d
  | lst {p : Addr} {vs : List V} {ds : List PyData} : Rd H p (.lst vs) → RA C H vs ds → RV C K H (.ref p) (.list ds)
  | dK {p : Addr} {kvs : List (Key × V)} {es : List (Key × PyData)} : Rd H p (.dK kvs) → KR C H kvs es → RV C K H (.ref p) (.dict (es.map fun e => (kD e.1, e.2)))
  | dN {p : Addr} {xs : List (NestedKey × Addr × Value)} {es : List (NestedKey × PyData)} : Rd H p (HT.tiedO C.1 C.2 p xs) → DN C H xs es → RV C K H (.ref p) (.dict (es.map fun e => (nkD e.1, e.2)))
section
variable {C : Program × World} {K : PySem.W.Frag} {H : Hp} {v : V}
theorem RV.list {ds : List PyData} (h : RV C K H v (.list ds)) : ∃ p vs, v = .ref p ∧ Rd H p (.lst vs) ∧ RA C H vs ds := by
  cases h with
  | of r => cases r with
    | lst h t => exact ⟨_, _, rfl, .inr h, t⟩
  | lst h t => exact ⟨_, _, rfl, h, t⟩
theorem RV.tuple {ds : List PyData} (h : RV C K H v (.tuple ds)) : R C H v (.tuple ds) ∧ ∃ p vs, v = .ref p ∧ FT H p vs ∧ RA C H vs ds := by
  cases h with
  | of r => exact ⟨r, by cases r with
    | tup h t => exact ⟨_, _, rfl, h, t⟩⟩
theorem RV.int {i : Int} (h : RV C K H v (.int i)) : v = .int i := by
  cases h with
  | of r => cases r; rfl
theorem RV.str {i : Str} (h : RV C K H v (.str i)) : v = .str i := by
  cases h with
  | of r => cases r; rfl
theorem RV.bool {i : Bool} (h : RV C K H v (.bool i)) : v = .bl i := by
  cases h with
  | of r => cases r; rfl
theorem RV.none (h : RV C K H v .none) : v = .non := by
  cases h with
  | of r => cases r; rfl
theorem RV.dict {l : List (PyData × PyData)} (h : RV C K H v (.dict l)) : (∃ p kvs es, v = .ref p ∧ Rd H p (.dK kvs) ∧ KR C H kvs es ∧ l = es.map fun e => (kD e.1, e.2)) ∨ ∃ p xs es, v = .ref p ∧ Rd H p (HT.tiedO C.1 C.2 p xs) ∧ DN C H xs es ∧ l = es.map fun e => (nkD e.1, e.2) := by
  cases h with
  | of r => cases r with
    | dK h k t e => exact .inl ⟨_, _, _, rfl, .inr ⟨_, h⟩, KR.of k t, e⟩
    | dN h n k a v t e => exact .inr ⟨_, _, _, rfl, .inr ⟨_, h⟩, ⟨n, DN.of k a v t⟩, e⟩
  | dK h t => exact .inl ⟨_, _, _, rfl, h, t, rfl⟩
  | dN h t => exact .inr ⟨_, _, _, rfl, h, t, rfl⟩
/-- something to be unpacked -/
inductive TV (C : Program × World) (K : PySem.W.Frag) (H : Hp) : V → PyData → Prop
  | of {v : V} {d : PyData} : RV C K H v d → TV C K H v d
  | tup {p : Addr} {vs : List V} {ds : List PyData} : SqT K H p vs → RA C H vs ds → TV C K H (.ref p) (.tuple ds)
theorem TV.tuple {ds : List PyData} (h : TV C K H v (.tuple ds)) : ∃ p vs, v = .ref p ∧ SqT K H p vs ∧ RA C H vs ds := by
  cases h with
  | of r =>
    obtain ⟨_, p, vs, e, a, b⟩ := r.tuple
    exact ⟨p, vs, e, a.sqT, b⟩
  | tup a b => exact ⟨_, _, rfl, a, b⟩
theorem TV.list {ds : List PyData} (h : TV C K H v (.list ds)) : ∃ p vs, v = .ref p ∧ SqL K H p vs ∧ RA C H vs ds := by
  cases h with
  | of r =>
    obtain ⟨p, vs, e, a, b⟩ := r.list
    exact ⟨p, vs, e, .inl a, b⟩
/-- as the layer's data, lists and tuples -/
theorem RV.dp {d : PyData} (h : RV C K H v d) (nd : noDict d = true) : Dp K H v d := by
  cases h with
  | of r => exact r.dp nd
  | lst h t => exact .lst (.inl h) (t.dp (by simpa [noDict] using nd))
  | dK h t => simp [noDict] at nd
  | dN h t => simp [noDict] at nd
theorem res_rv {B : List (Addr × List Addr)} {H0 : Hp} {σ : L2.St} {ρ : Env} {a : AV} {d : PyData} (sr : SR C B H0 σ H ρ) (h : AvOk C σ H v a) (e : a.res ρ = some d) : RV C K H v d := by
  cases a with
  | d x =>
    cases e
    exact .of h
  | b i =>
    obtain ⟨o, e1, e2⟩ := Option.bind_eq_some_iff.mp e
    obtain ⟨s, e3, e4⟩ := Option.bind_eq_some_iff.mp e1
    obtain ⟨F, hF, _⟩ := sr.rep
    have ok := hF i s _ e3 h
    have key : ∀ {p : Addr} {F : List Addr}, Rep C H p F o → RV C K H (.ref p) d := fun {p F} r => by
      cases o with
      | lst ds =>
        cases e2
        obtain ⟨_, vs, h1, h2⟩ := r
        exact .lst (.inl h1) h2
      | dK es =>
        cases e2
        obtain ⟨_, vs, h1, h2⟩ := r
        exact .dK (.inl h1) h2
      | dN es =>
        cases e2
        obtain ⟨_, xs, h1, h2⟩ := r
        exact .dN (.inl h1) h2
      | pool a b c => cases e2
    cases s with
    | non => cases e4
    | dat d => cases e4
    | own o' =>
      cases e4
      obtain ⟨p, e5, r, _⟩ := ok
      cases e5
      exact key r
    | par k o' =>
      cases e4
      obtain ⟨p, e5, r, _⟩ := ok
      cases e5
      exact key r
end
/-! ### operations of one, two, many values -/
/-- what is wanted behind an operation -/
def ResK (C : Program × World) (H : Hp) (Q : VK) : Res → Prop
  | .d d => ∀ v H', Same H H' → R C H' v d → Q v H'
  | .l ds => ∀ p H1 vs, Same H H1 → H1 p = none → RA C H1 vs ds → Q (.ref p) (upd H1 p (.lst vs))
def DOp (C : Program × World) (K : PySem.W.Frag) (r : R2) (f : PyData → PyData → Option Res) : Prop := ∀ (H : Hp) (x y : V) (a b : PyData) (o : Res), RV C K H x a → RV C K H y b → f a b = some o → ∀ Q : VK, ResK C H Q o → r x y H Q
def DUn (C : Program × World) (K : PySem.W.Frag) (r : V → Hp → VK → Prop) (f : PyData → Option Res) : Prop := ∀ (H : Hp) (x : V) (a : PyData) (o : Res), RV C K H x a → f a = some o → ∀ Q : VK, ResK C H Q o → r x H Q
inductive RVs (C : Program × World) (K : PySem.W.Frag) (H : Hp) : List V → List PyData → Prop
  | nil : RVs C K H [] []
  | cons {v : V} {vs : List V} {d : PyData} {ds : List PyData} : RV C K H v d → RVs C K H vs ds → RVs C K H (v :: vs) (d :: ds)
def DCl (C : Program × World) (K : PySem.W.Frag) (r : List V → Hp → VK → Prop) (f : List PyData → Option Res) : Prop := ∀ (H : Hp) (xs : List V) (as : List PyData) (o : Res), RVs C K H xs as → f as = some o → ∀ Q : VK, ResK C H Q o → r xs H Q
def m2 (f : PyData → PyData → Option Res) (ma mb : Mi Val) : Mi Val := fun ρ => (fz ma ρ).bind fun a => (fz mb a.2).bind fun b => (a.1.res b.2).bind fun x => (b.1.res b.2).bind fun y => (f x y).map fun o => (o.val, b.2)
def m1 (f : PyData → Option Res) (ma : Mi Val) : Mi Val := fun ρ => (fz ma ρ).bind fun a => (a.1.res a.2).bind fun x => (f x).map fun o => (o.val, a.2)
def mArgs : List (Mi Val) → Mi (List AV)
  | [] => fun ρ => some ([], ρ)
  | m :: ms => fun ρ => (fz m ρ).bind fun a => (mArgs ms a.2).bind fun r => some (a.1 :: r.1, r.2)
def resAll (ρ : Env) : List AV → Option (List PyData)
  | [] => some []
  | a :: as => (a.res ρ).bind fun x => (resAll ρ as).map fun xs => x :: xs
def mN (f : List PyData → Option Res) (ms : List (Mi Val)) : Mi Val := fun ρ => (mArgs ms ρ).bind fun r => (resAll r.2 r.1).bind fun xs => (f xs).map fun o => (o.val, r.2)
inductive AvsOk (C : Program × World) (σ : L2.St) (H : Hp) : List V → List AV → Prop
  | nil : AvsOk C σ H [] []
  | cons {v : V} {vs : List V} {a : AV} {as : List AV} : AvOk C σ H v a → AvsOk C σ H vs as → AvsOk C σ H (v :: vs) (a :: as)
theorem AvsOk.mono {C : Program × World} {σ : L2.St} {H H' : Hp} (e : Fm H H') : ∀ {vs : List V} {as : List AV}, AvsOk C σ H vs as → AvsOk C σ H' vs as
  | _, _, .nil => .nil
  | _, _, .cons h t => .cons (h.mono e) (AvsOk.mono e t)
def tAs (C : Program × World) (m : Mi (List AV)) : TA := fun σ H Q => ∃ B H0 ρ a ρ', SR C B H0 σ H ρ ∧ m ρ = some (a, ρ') ∧ ∀ vs H', SR C B H0 σ H' ρ' → AvsOk C σ H' vs a → Fm H H' → Q vs H'
section
variable {X : Cx} {C : Program × World} {a b e : Expr} {es : List Expr} {ma mb m : Mi Val} {pos : Pos}
theorem val_of {B : List (Addr × List Addr)} {H0 H H2 : Hp} {σ : L2.St} {ρ : Env} {o : Res} {Q : VK} (sr : SR C B H0 σ H2 ρ) (f : Fm H H2) (q : ValK C B H0 σ H ρ Q o.val) : ResK C H2 Q o := by
  cases o with
  | d d => exact fun v H' s r => q v H' (sr.same s) r (f.trans (Fm.of s))
  | l ds =>
    intro p H1 vs s hp r
    have fm := Fm.of (same_new (o := .lst vs) hp)
    exact q p _ ((sr.same s).pushNew hp ⟨rfl, vs, upd_same, r.mono fm⟩) ((f.trans (Fm.of s)).trans fm)
theorem tOp_of {r : R2} {f : PyData → PyData → Option Res} {K : PySem.W.Frag} (hd : DOp C K r f) {σ : L2.St} {H : Hp} {Q : VK} (h : tX C (m2 f ma mb) σ H Q) : tOp r (tM C (fz ma)) (tM C (fz mb)) σ H Q := by
  obtain ⟨B, H0, ρ, v, ρ', sr, em, q⟩ := h
  unfold m2 at em
  obtain ⟨⟨av, ρ1⟩, h1, em⟩ := Option.bind_eq_some_iff.mp em
  obtain ⟨⟨bv, ρ2⟩, h2, em⟩ := Option.bind_eq_some_iff.mp em
  obtain ⟨x, h3, em⟩ := Option.bind_eq_some_iff.mp em
  obtain ⟨y, h4, em⟩ := Option.bind_eq_some_iff.mp em
  obtain ⟨o, h5, em⟩ := Option.map_eq_some_iff.mp em
  cases em
  refine ⟨B, H0, ρ, av, ρ1, sr, h1, fun x1 H1 s1 a1 f1 => ?_⟩
  refine ⟨B, H0, ρ1, bv, ρ2, s1, h2, fun y1 H2 s2 b2 f2 => ?_⟩
  exact hd H2 x1 y1 x y o (res_rv s2 (a1.mono f2) h3) (res_rv s2 b2 h4) h5 Q (val_of s2 (f1.trans f2) q)
theorem gx_op {op : Operator} {r : R2} {f : PyData → PyData → Option Res} (hop : OpR X (binaryOp op) r) (hd : DOp C X.K r f) (ha : PE X a (tX C ma)) (hb : PE X b (tX C mb)) : PE X (.BinOp a op b pos) (tX C (m2 f ma mb)) :=
  pe_wk (pe_op hop (pe_fz ha) (pe_fz hb)) fun _ _ _ h => tOp_of hd h
theorem gx_ix {r : R2} {f : PyData → PyData → Option Res} (hr : IxR X r) (hd : DOp C X.K r f) (ha : PE X a (tX C ma)) (hb : PE X b (tX C mb)) (hs : PlainIx b) : PE X (.Subscript a b pos) (tX C (m2 f ma mb)) :=
  pe_wk (pe_ix hr (pe_fz ha) (pe_fz hb) hs) fun _ _ _ h => tOp_of hd h
theorem gx_cmp {op : CmpOp} {r : R2} {f : PyData → PyData → Option Res} (hop : OpR X (compareOp op) r) (hd : DOp C X.K r f) (ha : PE X a (tX C ma)) (hb : PE X b (tX C mb)) (hm : behindInMarks op b = false) : PE X (.Compare a [op] [b] pos) (tX C (m2 f ma mb)) :=
  pe_wk (pe_cmpR hop (pe_fz ha) (pe_fz hb) hm) fun _ _ _ h => tOp_of hd h
theorem gx_un {op : UnaryOp} {r : V → Hp → VK → Prop} {f : PyData → Option Res} (hop : UnR X (unaryOp op) r) (hd : DUn C X.K r f) (ha : PE X a (tX C ma)) : PE X (.UnaryOp op a pos) (tX C (m1 f ma)) :=
  pe_wk (pe_un hop (pe_fz ha)) fun σ H Q h => by
    obtain ⟨B, H0, ρ, v, ρ', sr, em, q⟩ := h
    unfold m1 at em
    obtain ⟨⟨av, ρ1⟩, h1, em⟩ := Option.bind_eq_some_iff.mp em
    obtain ⟨x, h3, em⟩ := Option.bind_eq_some_iff.mp em
    obtain ⟨o, h5, em⟩ := Option.map_eq_some_iff.mp em
    cases em
    exact ⟨B, H0, ρ, av, ρ1, sr, h1, fun x1 H1 s1 a1 f1 => hd H1 x1 x o (res_rv s1 a1 h3) h5 Q (val_of s1 f1 q)⟩
/-! tests -/
def tXT (C : Program × World) (m : Mi Bool) : TT := fun σ H Q => ∃ B H0 ρ b ρ', SR C B H0 σ H ρ ∧ m ρ = some (b, ρ') ∧ ∀ H', SR C B H0 σ H' ρ' → Fm H H' → Q b H'
def Val.bool : Val → Option Bool
  | .d (.bool b) => some b
  | _ => none
def mtst (m : Mi Val) : Mi Bool := fun ρ => (m ρ).bind fun r => r.1.bool.map fun b => (b, r.2)
theorem tst_of {σ : L2.St} {H : Hp} {Q : Bool → Hp → Prop} (h : tXT C (mtst m) σ H Q) : tX C m σ H fun x H' => ∃ k, x = .bl k ∧ Q k H' := by
  obtain ⟨B, H0, ρ, b, ρ', sr, em, q⟩ := h
  obtain ⟨⟨v, ρ1⟩, h1, em⟩ := Option.bind_eq_some_iff.mp em
  obtain ⟨b', h2, em⟩ := Option.map_eq_some_iff.mp em
  cases em
  refine ⟨B, H0, ρ, v, ρ1, sr, h1, ?_⟩
  cases v with
  | d x => cases x with
    | bool k =>
      cases h2
      intro v H' s r f
      cases r
      exact ⟨_, rfl, q H' s f⟩
    | _ => cases h2
  | _ => cases h2
theorem gt_cmp {op : CmpOp} {r : R2} {f : PyData → PyData → Option Res} (hop : OpR X (compareOp op) r) (hd : DOp C X.K r f) (ha : PE X a (tX C ma)) (hb : PE X b (tX C mb)) (hm : behindInMarks op b = false) : PT X (.Compare a [op] [b] pos) (tXT C (mtst (m2 f ma mb))) :=
  pt_wk (pt_cmpR hop (pe_fz ha) (pe_fz hb) hm) fun σ H Q h => tOp_of hd (tst_of h)
theorem gt_val (h : PE X e (tX C m)) (he : ∀ whole, isTrue e X.env whole = (do let v ← whole; standAt e.pos; holding [v] (truthy v)) := by intro _; rfl) : PT X e (tXT C (mtst m)) :=
  pt_wk (pt_val h he) fun σ H Q z => tst_of z
def mAnd (a b : Mi Bool) : Mi Bool := fun ρ => (a ρ).bind fun r => if r.1 = true then b r.2 else some (false, r.2)
def mOr (a b : Mi Bool) : Mi Bool := fun ρ => (a ρ).bind fun r => if r.1 = true then some (true, r.2) else b r.2
def mNot (a : Mi Bool) : Mi Bool := fun ρ => (a ρ).map fun r => (!r.1, r.2)
variable {ta tb : Mi Bool} {rest : List Expr}
theorem gw_and1 (ha : PT X a (tXT C ta)) : PW X (.BoolOp .And [a] pos) (tXT C ta) := pw_and1 ha
theorem gw_or1 (ha : PT X a (tXT C ta)) : PW X (.BoolOp .Or [a] pos) (tXT C ta) := pw_or1 ha
theorem gw_and (ha : PT X a (tXT C ta)) (hb : PW X (.BoolOp .And (b :: rest) pos) (tXT C tb)) : PW X (.BoolOp .And (a :: b :: rest) pos) (tXT C (mAnd ta tb)) :=
  pw_wk (pw_and ha hb) fun σ H Q ⟨B, H0, ρ, v, ρ', sr, em, q⟩ => by
    obtain ⟨⟨c, ρ1⟩, h1, em⟩ := Option.bind_eq_some_iff.mp em
    refine ⟨B, H0, ρ, c, ρ1, sr, h1, fun H1 s1 f1 => ?_⟩
    dsimp only at em
    by_cases hc : c = true
    · rw [if_pos hc] at em ⊢
      exact ⟨B, H0, ρ1, v, ρ', s1, em, fun H2 s2 f2 => q H2 s2 (f1.trans f2)⟩
    · rw [if_neg hc] at em ⊢
      cases em
      exact q H1 s1 f1
theorem gw_or (ha : PT X a (tXT C ta)) (hb : PW X (.BoolOp .Or (b :: rest) pos) (tXT C tb)) : PW X (.BoolOp .Or (a :: b :: rest) pos) (tXT C (mOr ta tb)) :=
  pw_wk (pw_or ha hb) fun σ H Q ⟨B, H0, ρ, v, ρ', sr, em, q⟩ => by
    obtain ⟨⟨c, ρ1⟩, h1, em⟩ := Option.bind_eq_some_iff.mp em
    refine ⟨B, H0, ρ, c, ρ1, sr, h1, fun H1 s1 f1 => ?_⟩
    dsimp only at em
    by_cases hc : c = true
    · rw [if_pos hc] at em ⊢
      cases em
      exact q H1 s1 f1
    · rw [if_neg hc] at em ⊢
      exact ⟨B, H0, ρ1, v, ρ', s1, em, fun H2 s2 f2 => q H2 s2 (f1.trans f2)⟩
theorem gt_not (ha : PT X a (tXT C ta)) : PT X (.UnaryOp .Not a pos) (tXT C (mNot ta)) :=
  pt_wk (pt_not ha) fun σ H Q ⟨B, H0, ρ, v, ρ', sr, em, q⟩ => by
    obtain ⟨⟨c, ρ1⟩, h1, em⟩ := Option.map_eq_some_iff.mp em
    cases em
    exact ⟨B, H0, ρ, c, ρ1, sr, h1, fun H1 s1 f1 => q H1 s1 f1⟩
def mIfE (c : Mi Bool) (a b : Mi Val) : Mi Val := fun ρ => (c ρ).bind fun r => if r.1 = true then a r.2 else b r.2
theorem ValK.from {B : List (Addr × List Addr)} {H0 H H1 : Hp} {σ : L2.St} {ρ : Env} {Q : VK} {v : Val} (f : Fm H H1) (q : ValK C B H0 σ H ρ Q v) : ValK C B H0 σ H1 ρ Q v := by
  cases v with
  | d x => exact fun v H' s r g => q v H' s r (f.trans g)
  | b i => exact fun v H' s r g => q v H' s r (f.trans g)
  | fr o => exact fun p H' s g => q p H' s (f.trans g)
theorem gx_ifE {c : Expr} (hc : PT X c (tXT C ta)) (ha : PE X a (tX C ma)) (hb : PE X b (tX C mb)) : PE X (.IfExp c a b pos) (tX C (mIfE ta ma mb)) :=
  pe_wk (pe_ifExp hc ha hb) fun σ H Q ⟨B, H0, ρ, v, ρ', sr, em, q⟩ => by
    obtain ⟨⟨c, ρ1⟩, h1, em⟩ := Option.bind_eq_some_iff.mp em
    refine ⟨B, H0, ρ, c, ρ1, sr, h1, fun H1 s1 f1 => ?_⟩
    dsimp only at em
    by_cases hc : c = true
    · rw [if_pos hc] at em ⊢
      exact ⟨B, H0, ρ1, v, ρ', s1, em, q.from f1⟩
    · rw [if_neg hc] at em ⊢
      exact ⟨B, H0, ρ1, v, ρ', s1, em, q.from f1⟩
/-! arguments -/
theorem ga_nil : PA X [] (tAs C (mArgs [])) := ⟨fun pos pins s σ H Q I ⟨B, H0, ρ, v, ρ', sr, em, q⟩ => pa_nil.run pos pins s σ H Q I (by
  cases em
  exact q [] H sr .nil (Fm.refl H))⟩
theorem ga_cons {ms : List (Mi Val)} (ha : PE X e (tX C m)) (hr : PA X es (tAs C (mArgs ms))) (hs : starEach (e :: es) X.env = (false, eval e X.env) :: starEach es X.env := by rfl) : PA X (e :: es) (tAs C (mArgs (m :: ms))) := ⟨fun pos pins s σ H Q I ⟨B, H0, ρ, v, ρ', sr, em, q⟩ => (pa_cons (pe_fz ha) hr hs).run pos pins s σ H Q I (by
  unfold mArgs at em
  obtain ⟨⟨a, ρ1⟩, h1, em⟩ := Option.bind_eq_some_iff.mp em
  obtain ⟨⟨as, ρ2⟩, h2, em⟩ := Option.bind_eq_some_iff.mp em
  cases em
  refine ⟨B, H0, ρ, a, ρ1, sr, h1, fun x1 H1 s1 a1 f1 => ?_⟩
  exact ⟨B, H0, ρ1, as, ρ2, s1, h2, fun xs H2 s2 a2 f2 => q _ H2 s2 (.cons (a1.mono f2) a2) (f1.trans f2)⟩)⟩
theorem resAll_rv {K : PySem.W.Frag} {B : List (Addr × List Addr)} {H0 H : Hp} {σ : L2.St} {ρ : Env} (sr : SR C B H0 σ H ρ) : ∀ {vs : List V} {as : List AV} {xs : List PyData}, AvsOk C σ H vs as → resAll ρ as = some xs → RVs C K H vs xs
  | _, _, _, .nil, e => by
    cases e
    exact .nil
  | _, _, _, .cons h t, e => by
    obtain ⟨x, e1, e⟩ := Option.bind_eq_some_iff.mp e
    obtain ⟨xs, e2, e⟩ := Option.map_eq_some_iff.mp e
    cases e
    exact .cons (res_rv sr h e1) (resAll_rv sr t e2)
theorem tCB_of {K : PySem.W.Frag} {r : List V → Hp → VK → Prop} {f : List PyData → Option Res} {ms : List (Mi Val)} (hd : DCl C K r f) {σ : L2.St} {H : Hp} {Q : VK} (h : tX C (mN f ms) σ H Q) : tCB r (tAs C (mArgs ms)) σ H Q := by
  obtain ⟨B, H0, ρ, v, ρ', sr, em, q⟩ := h
  obtain ⟨⟨as, ρ1⟩, h1, em⟩ := Option.bind_eq_some_iff.mp em
  obtain ⟨xs, h3, em⟩ := Option.bind_eq_some_iff.mp em
  obtain ⟨o, h5, em⟩ := Option.map_eq_some_iff.mp em
  cases em
  exact ⟨B, H0, ρ, as, ρ1, sr, h1, fun x1 H1 s1 a1 f1 => hd H1 x1 xs o (resAll_rv s1 a1 h3) h5 Q (val_of s1 f1 q)⟩
theorem gx_callB {x : Str} {p : Pos} {id : String} {r : List V → Hp → VK → Prop} {f : List PyData → Option Res} {ms : List (Mi Val)} (hd : DCl C X.K r f) (hc : CallR X (.builtin id) r) (hg : Gl X x) (hm : X.mg x = none) (hv : bootBuiltins x = some (.builtin id)) (ha : PA X (e :: es) (tAs C (mArgs ms))) (hn : x ≠ "__name__" := by decide) (hdb : (x == ("__debug__" : Str)) = false := by decide)
    (he : starEach (e :: es) X.env = (false, eval e X.env) :: starEach es X.env := by rfl) (hpl : (backTo pos (starEach es X.env)).any (·.1) = false := by rfl) : PE X (.Call (.Name x p) (e :: es) [] pos) (tX C (mN f ms)) :=
  pe_wk (pe_callB hc hg hm hv ha hn hdb he hpl) fun _ _ _ h => tCB_of hd h
theorem gx_callTy {x : Str} {p : Pos} {T : String} {r : List V → Hp → VK → Prop} {f : List PyData → Option Res} {ms : List (Mi Val)} (hd : DCl C X.K r f) (hc : CallR X (.type T) r) (hg : Gl X x) (hm : X.mg x = none) (hv : bootBuiltins x = some (.type T)) (ha : PA X (e :: es) (tAs C (mArgs ms))) (hn : x ≠ "__name__" := by decide) (hdb : (x == ("__debug__" : Str)) = false := by decide)
    (he : starEach (e :: es) X.env = (false, eval e X.env) :: starEach es X.env := by rfl) (hpl : (backTo pos (starEach es X.env)).any (·.1) = false := by rfl) : PE X (.Call (.Name x p) (e :: es) [] pos) (tX C (mN f ms)) :=
  pe_wk (pe_callTy hc hg hm hv ha hn hdb he hpl) fun _ _ _ h => tCB_of hd h
/-! displays -/
def datAll : List AV → Option (List PyData)
  | [] => some []
  | .d x :: as => (datAll as).map fun xs => x :: xs
  | .b _ :: _ => none
def mTup (ms : List (Mi Val)) : Mi Val := fun ρ => (mArgs ms ρ).bind fun r => (datAll r.1).map fun xs => (.d (.tuple xs), r.2)
def mLst (ms : List (Mi Val)) : Mi Val := fun ρ => (mArgs ms ρ).bind fun r => (datAll r.1).map fun xs => (.fr (.lst xs), r.2)
theorem datAll_ra {C : Program × World} {σ : L2.St} {H : Hp} : ∀ {vs : List V} {as : List AV} {xs : List PyData}, AvsOk C σ H vs as → datAll as = some xs → RA C H vs xs
  | _, _, _, .nil, e => by
    cases e
    exact .nil
  | _, .d x :: _, _, .cons h t, e => by
    obtain ⟨xs, e2, e⟩ := Option.map_eq_some_iff.mp e
    cases e
    exact .cons h (datAll_ra t e2)
  | _, .b _ :: _, _, .cons h t, e => by cases e
theorem mArgs_len : ∀ {ms : List (Mi Val)} {ρ ρ' : Env} {as : List AV}, mArgs ms ρ = some (as, ρ') → as.length = ms.length
  | [], _, _, _, e => by
    cases e
    rfl
  | m :: ms, _, _, _, em => by
    unfold mArgs at em
    obtain ⟨⟨a, ρ1⟩, h1, em⟩ := Option.bind_eq_some_iff.mp em
    obtain ⟨⟨as, ρ2⟩, h2, em⟩ := Option.bind_eq_some_iff.mp em
    cases em
    exact congrArg (· + 1) (mArgs_len h2)
theorem AvsOk.length {C : Program × World} {σ : L2.St} {H : Hp} : ∀ {vs : List V} {as : List AV}, AvsOk C σ H vs as → vs.length = as.length
  | _, _, .nil => rfl
  | _, _, .cons _ t => congrArg (· + 1) t.length
theorem gx_tup {x1} {ms : List (Mi Val)} (h : PA X es (tAs C (mArgs ms))) (hl : ms.length ≤ 1000 := by decide) : PE X (.Tuple es x1 pos) (tX C (mTup ms)) :=
  pe_wk (pe_tupF h) fun σ H Q ⟨B, H0, ρ, v, ρ', sr, em, q⟩ => by
    obtain ⟨⟨as, ρ1⟩, h1, em⟩ := Option.bind_eq_some_iff.mp em
    obtain ⟨xs, h3, em⟩ := Option.map_eq_some_iff.mp em
    cases em
    refine ⟨B, H0, ρ, as, ρ1, sr, h1, fun vs H1 s1 a1 f1 => ⟨?_, fun p o hp hc hd => ?_⟩⟩
    · rw [a1.length, mArgs_len h1, sizeLine_eq]
      omega
    · have s := same_new (o := .frz o (.tup vs)) hp
      exact q _ _ (s1.same s) (.tup ⟨o, upd_same, hc, hd⟩ ((datAll_ra a1 h3).mono (Fm.of s))) (f1.trans (Fm.of s))
theorem gx_lst {ms : List (Mi Val)} (h : PA X es (tAs C (mArgs ms))) (hl : ms.length ≤ 1000 := by decide) : PE X (.List es pos) (tX C (mLst ms)) :=
  pe_wk (pe_lst h) fun σ H Q ⟨B, H0, ρ, v, ρ', sr, em, q⟩ => by
    obtain ⟨⟨as, ρ1⟩, h1, em⟩ := Option.bind_eq_some_iff.mp em
    obtain ⟨xs, h3, em⟩ := Option.map_eq_some_iff.mp em
    cases em
    refine ⟨B, H0, ρ, as, ρ1, sr, h1, fun vs H1 s1 a1 f1 => ⟨?_, fun p hp => ?_⟩⟩
    · rw [a1.length, mArgs_len h1, sizeLine_eq]
      omega
    · have s := same_new (o := .lst vs) hp
      exact q _ _ (s1.pushNew hp ⟨rfl, vs, upd_same, (datAll_ra a1 h3).mono (Fm.of s)⟩) (f1.trans (Fm.of s))
end
end G
/-! statements -/
namespace G
open PySem PyProof.Rows L2 HD
inductive Out where
  | nx (ρ : Env)
  | rt (d : PyData) (ρ : Env)
  /-- an object of its own is handed back -/
  | ro (o : Ob) (ρ : Env)
  /-- the k-th object handed in is handed back -/
  | rp (k : Nat) (ρ : Env)
  | bk (ρ : Env)
  | ct (ρ : Env)
def OutK (C : Program × World) (B : List (Addr × List Addr)) (H0 H : Hp) (D : Ends) : Out → Prop
  | .nx ρ => ∀ σ' H', SR C B H0 σ' H' ρ → Fm H H' → D.nx σ' H'
  | .rt d ρ => ∀ v σ' H', SR C B H0 σ' H' ρ → Fm H H' → R C H' v d → D.rt v H'
  | .ro o ρ => ∀ p σ' H', SR C B H0 (σ' ++ [some (.ref p)]) H' (ρ ++ [.own o]) → Fm H H' → D.rt (.ref p) H'
  | .rp k ρ => ∀ p F σ' H', SR C B H0 σ' H' ρ → Fm H H' → B[k]? = some (p, F) → D.rt (.ref p) H'
  | .bk ρ => ∀ σ' H', SR C B H0 σ' H' ρ → Fm H H' → D.bk σ' H'
  | .ct ρ => ∀ σ' H', SR C B H0 σ' H' ρ → Fm H H' → D.ct σ' H'
abbrev Ms := Env → Option Out
def tS (C : Program × World) (m : Ms) : TS := fun D σ H => ∃ B H0 ρ o, SR C B H0 σ H ρ ∧ m ρ = some o ∧ OutK C B H0 H D o
section
variable {X : Cx} {C : Program × World} {B : List (Addr × List Addr)} {H0 H H1 : Hp} {D : Ends} {o : Out}
theorem OutK.from (f : Fm H H1) (q : OutK C B H0 H D o) : OutK C B H0 H1 D o := by
  cases o with
  | nx ρ => exact fun σ' H' s g => q σ' H' s (f.trans g)
  | rt d ρ => exact fun v σ' H' s g r => q v σ' H' s (f.trans g) r
  | ro d ρ => exact fun v σ' H' s g => q v σ' H' s (f.trans g)
  | rp d ρ => exact fun v F σ' H' s g => q v F σ' H' s (f.trans g)
  | bk ρ => exact fun σ' H' s g => q σ' H' s (f.trans g)
  | ct ρ => exact fun σ' H' s g => q σ' H' s (f.trans g)
theorem ps_wk {st : Stmt} {t t' : TS} (h : PS X st t) (w : ∀ D σ H, t' D σ H → t D σ H) : PS X st t' := ⟨fun pins s σ H D I z => h.run pins s σ H D I (w D σ H z)⟩
theorem pss_wk {st : List Stmt} {t t' : TS} (h : PSs X st t) (w : ∀ D σ H, t' D σ H → t D σ H) : PSs X st t' := ⟨fun pins s σ H D I z => h.run pins s σ H D I (w D σ H z)⟩
def mNil : Ms := fun ρ => some (.nx ρ)
def mSeq (a b : Ms) : Ms := fun ρ => (a ρ).bind fun o => match o with
  | .nx ρ' => b ρ'
  | o => some o
variable {st : Stmt} {rest : List Stmt} {a b : Ms}
theorem gss_nil : PSs X [] (tS C mNil) := pss_wk pss_nil fun D σ H ⟨B, H0, ρ, o, sr, em, q⟩ => by
  cases em
  exact q σ H sr (Fm.refl H)
theorem gss_one (h : PS X st (tS C a)) : PSs X [st] (tS C a) := pss_one h
theorem gss_cons (h1 : PS X st (tS C a)) (h2 : PSs X rest (tS C b)) : PSs X (st :: rest) (tS C (mSeq a b)) := pss_wk (pss_cons h1 h2) fun D σ H ⟨B, H0, ρ, o, sr, em, q⟩ => by
  obtain ⟨o1, h1, em⟩ := Option.bind_eq_some_iff.mp em
  refine ⟨B, H0, ρ, o1, sr, h1, ?_⟩
  cases o1 with
  | nx ρ1 => exact fun σ' H' s f => ⟨B, H0, ρ1, o, s, em, q.from f⟩
  | rt d ρ1 => cases em; exact q
  | ro d ρ1 => cases em; exact q
  | rp d ρ1 => cases em; exact q
  | bk ρ1 => cases em; exact q
  | ct ρ1 => cases em; exact q
variable {pos : Pos}
theorem gs_pass : PS X (.Pass pos) (tS C mNil) := ps_wk ps_pass fun D σ H ⟨B, H0, ρ, o, sr, em, q⟩ => by
  cases em
  exact q σ H sr (Fm.refl H)
theorem gs_break : PS X (.Break pos) (tS C fun ρ => some (.bk ρ)) := ps_wk ps_break fun D σ H ⟨B, H0, ρ, o, sr, em, q⟩ => by
  cases em
  exact q σ H sr (Fm.refl H)
theorem gs_continue : PS X (.Continue pos) (tS C fun ρ => some (.ct ρ)) := ps_wk ps_continue fun D σ H ⟨B, H0, ρ, o, sr, em, q⟩ => by
  cases em
  exact q σ H sr (Fm.refl H)
variable {e : Expr} {m : Mi Val}
/-! a slot is set -/
def mSet (i : Nat) (m : Mi Val) : Ms := fun ρ => (fz m ρ).bind fun r => match r.1 with
  | .d x => some (.nx (r.2.set i (.dat x)))
  | _ => none
def mSetO (i : Nat) (m : Mi Val) : Ms := fun ρ => (m ρ).bind fun r => match r.1 with
  | .d x => some (.nx (r.2.set i (.dat x)))
  | .fr o => some (.nx (r.2.set i (.own o)))
  | _ => none
theorem set_of {i : Nat} {σ : L2.St} (h : tS C (mSet i m) D σ H) : tAsg (tM C (fz m)) (gName i) D σ H := by
  obtain ⟨B, H0, ρ, o, sr, em, q⟩ := h
  obtain ⟨⟨v, ρ1⟩, h1, em⟩ := Option.bind_eq_some_iff.mp em
  cases v with
  | d x =>
    cases em
    exact ⟨B, H0, ρ, .d x, ρ1, sr, h1, fun v H' s a f => q _ H' (s.setDat a) f⟩
  | b j => cases em
theorem setO_of {i : Nat} {σ : L2.St} (h : tS C (mSetO i m) D σ H) : tAsg (tX C m) (gName i) D σ H := by
  obtain ⟨B, H0, ρ, o, sr, em, q⟩ := h
  obtain ⟨⟨v, ρ1⟩, h1, em⟩ := Option.bind_eq_some_iff.mp em
  refine ⟨B, H0, ρ, v, ρ1, sr, h1, ?_⟩
  cases v with
  | d x =>
    cases em
    exact fun v H' s r f => q _ H' (s.setDat r) f
  | b j => cases em
  | fr ob =>
    cases em
    exact fun p H' s f => q _ H' (s.setOwn i) f
theorem gs_set {i : Nat} {x : Str} {pos' : Pos} (hN : X.N.Nodup) (hi : X.N[i]? = some x) (hx : Loc X.env.scope x) (he : PE X e (tX C m)) (hs : swapsWith e (some (.Name x pos')) pos.line X.env = pure false := by rfl) (hf : X.fn x = true ∨ X.env.scope.names.lookup x = some .local := by first | exact .inl rfl | exact .inr rfl | assumption) :
    PS X (.Assign [.Name x pos'] e pos) (tS C (mSet i m)) := ps_wk (ps_set hN hi hx (pe_fz he) hs hf) fun _ _ _ h => set_of h
theorem gs_setO {i : Nat} {x : Str} {pos' : Pos} (hN : X.N.Nodup) (hi : X.N[i]? = some x) (hx : Loc X.env.scope x) (he : PE X e (tX C m)) (hs : swapsWith e (some (.Name x pos')) pos.line X.env = pure false := by rfl) (hf : X.fn x = true ∨ X.env.scope.names.lookup x = some .local := by first | exact .inl rfl | exact .inr rfl | assumption) :
    PS X (.Assign [.Name x pos'] e pos) (tS C (mSetO i m)) := ps_wk (ps_set hN hi hx he hs hf) fun _ _ _ h => setO_of h
/-- an expression alone -/
def mExp (m : Mi Val) : Ms := fun ρ => (m ρ).map fun r => .nx r.2
theorem gs_expr (he : PE X e (tX C m)) (hs : swapsWith e none pos.line X.env = pure false := by rfl) : PS X (.Expr e pos) (tS C (mExp m)) := ps_wk (ps_expr he hs) fun D σ H ⟨B, H0, ρ, o, sr, em, q⟩ => by
  obtain ⟨⟨v, ρ1⟩, h1, em⟩ := Option.map_eq_some_iff.mp em
  cases em
  refine ⟨B, H0, ρ, v, ρ1, sr, h1, ?_⟩
  cases v with
  | d x => exact fun v H' s r f => q _ H' s f
  | b j => exact fun v H' s r f => q _ H' s f
  | fr ob => exact fun p H' s f => q _ H' s.pop f
/-! return -/
/-- the slot's own list becomes data -/
def frzS (i : Nat) (ρ : Env) : Option Env := match ρ[i]? with
  | some (.own o) => o.data.map fun d => ρ.set i (.dat d)
  | some (.dat d) => some ρ
  | _ => none
def mFrz (i : Nat) (s : Ms) : Ms := fun ρ => (frzS i ρ).bind s
theorem frz_step {σ : L2.St} {ρ ρ1 : Env} {i : Nat} {pins : List (Addr × Obj)} {s : Shared} (sr : SR C B H0 σ H ρ) (I : Inv X pins σ H s) (e : frzS i ρ = some ρ1) : ∃ H1, Inv X pins σ H1 s ∧ SR C B H0 σ H1 ρ1 ∧ Fm H H1 := by
  unfold frzS at e
  split at e
  · next o h =>
    obtain ⟨d, hd, rfl⟩ := Option.map_eq_some_iff.mp e
    obtain ⟨F, hF, _⟩ := sr.rep
    obtain ⟨v, hv⟩ := sr.get h
    obtain ⟨p, rfl, hr, n⟩ := hF _ _ _ h hv
    obtain ⟨_, u, hp, _, mu, _⟩ := hr.frz hd
    obtain ⟨od, I2⟩ := I.lock hp mu
    obtain ⟨s2, _, f2⟩ := sr.freezeAt (od := od) h hv hd hp
    exact ⟨_, I2, s2, f2⟩
  · cases e
    exact ⟨H, I, sr, Fm.refl H⟩
  · cases e
theorem gs_frz (i : Nat) (h : PS X st (tS C a)) : PS X st (tS C (mFrz i a)) := ⟨fun pins s σ H D I ⟨B, H0, ρ, o, sr, em, q⟩ => by
  obtain ⟨ρ1, h1, em⟩ := Option.bind_eq_some_iff.mp em
  obtain ⟨H1, I1, s1, f1⟩ := frz_step sr I h1
  exact h.run pins s σ H1 D I1 ⟨B, H0, ρ1, o, s1, em, q.from f1⟩⟩
theorem gss_frz (i : Nat) (h : PSs X rest (tS C a)) : PSs X rest (tS C (mFrz i a)) := ⟨fun pins s σ H D I ⟨B, H0, ρ, o, sr, em, q⟩ => by
  obtain ⟨ρ1, h1, em⟩ := Option.bind_eq_some_iff.mp em
  obtain ⟨H1, I1, s1, f1⟩ := frz_step sr I h1
  exact h.run pins s σ H1 D I1 ⟨B, H0, ρ1, o, s1, em, q.from f1⟩⟩
def mRet (m : Mi Val) : Ms := fun ρ => (fz m ρ).bind fun r => match r.1 with
  | .d x => some (.rt x r.2)
  | _ => none
theorem gs_ret (he : PE X e (tX C m)) : PS X (.Return (some e) pos) (tS C (mRet m)) := ps_wk (ps_ret (pe_fz he)) fun D σ H ⟨B, H0, ρ, o, sr, em, q⟩ => by
  obtain ⟨⟨v, ρ1⟩, h1, em⟩ := Option.bind_eq_some_iff.mp em
  cases v with
  | d x =>
    cases em
    exact ⟨B, H0, ρ, .d x, ρ1, sr, h1, fun v H' s a f => q v σ H' s f a⟩
  | b j => cases em
theorem gs_retN : PS X (.Return none pos) (tS C fun ρ => some (.rt .none ρ)) := ps_wk ps_retN fun D σ H ⟨B, H0, ρ, o, sr, em, q⟩ => by
  cases em
  exact q .non σ H sr (Fm.refl H) .non
/-- a slot's own object goes out -/
theorem SR.moveOut {σ : L2.St} {ρ : Env} {ob : Ob} {p : Addr} {i : Nat} (h : SR C B H0 σ H ρ) (e : ρ[i]? = some (.own ob)) (es : σ[i]? = some (some (.ref p))) : SR C B H0 (σ ++ [some (.ref p)]) H (ρ.set i .non ++ [.own ob]) := by
  obtain ⟨F, hF, hd⟩ := h.rep
  have h2 := h.setNon (i := i) (v := some (.ref p))
  have eσ : σ.set i (some (.ref p)) = σ := by
    refine List.ext_getElem? fun j => ?_
    rw [List.getElem?_set]
    by_cases q : i = j
    · rw [if_pos q, if_pos (List.getElem?_eq_some_iff.mp es).1, ← q, es]
    · rw [if_neg q]
  rw [eσ] at h2
  have nx : ∀ (m : Nat) (v : Sl), (ρ.set i Sl.non)[m]? = some v → v.ob.isSome = true → ρ[m]? = some v ∧ m ≠ i := fun m v z hv => by
    rw [List.getElem?_set] at z
    by_cases q : i = m
    · rw [if_pos q] at z
      split at z
      · cases z
        cases hv
      · cases z
    · rw [if_neg q] at z
      exact ⟨z, fun z => q z.symm⟩
  refine ⟨by simp [h2.len], h2.off, h2.grow, h2.fm, h2.bx, push_rep (F := F) h2.len (fun j t w x y => ?_) (fun j k t u n x y ht hu => ?_) (G := F i) (hF _ _ _ e es) fun _ a ha j t x ht hm => ?_⟩
  · rw [List.getElem?_set] at x
    by_cases q : i = j
    · rw [if_pos q] at x
      split at x
      · cases x
        trivial
      · cases x
    · rw [if_neg q] at x
      exact hF j t w x y
  · exact hd j k t u n (nx j t x ht).1 (nx k u y hu).1 ht hu
  · obtain ⟨x1, x2⟩ := nx j t x ht
    exact hd i j _ t (fun z => x2 z.symm) e x1 rfl ht a ha hm
/-- an object is handed back -/
def mRetO (m : Mi Val) : Ms := fun ρ => (m ρ).bind fun r => match r.1 with
  | .fr o => some (.ro o r.2)
  | .b i => (match r.2[i]? with
    | some (.own o) => some (.ro o (r.2.set i .non))
    | some (.par k _) => some (.rp k r.2)
    | _ => none)
  | _ => none
theorem gs_retO (he : PE X e (tX C m)) : PS X (.Return (some e) pos) (tS C (mRetO m)) := ps_wk (ps_ret he) fun D σ H ⟨B, H0, ρ, o, sr, em, q⟩ => by
  obtain ⟨⟨v, ρ1⟩, h1, em⟩ := Option.bind_eq_some_iff.mp em
  refine ⟨B, H0, ρ, v, ρ1, sr, h1, ?_⟩
  cases v with
  | d x => cases em
  | b j =>
    intro v H' s es f
    dsimp only at em
    split at em
    · next ob e1 =>
      cases em
      obtain ⟨p, hp⟩ := s.obv e1 rfl
      rw [es] at hp
      cases hp
      exact q _ σ H' (s.moveOut e1 es) f
    · next k ob e1 =>
      cases em
      obtain ⟨F, hF, _⟩ := s.rep
      obtain ⟨p, e2, _, hb⟩ := hF _ _ _ e1 es
      cases e2
      exact q _ _ σ H' s f hb
    · cases em
  | fr ob =>
    cases em
    exact fun p H' s f => q p σ H' s f
/-! if -/
def mIf (c : Mi Bool) (a b : Ms) : Ms := fun ρ => (c ρ).bind fun r => if r.1 = true then a r.2 else b r.2
theorem gs_if {c : Expr} {x y : List Stmt} {tc : Mi Bool} (hc : PT X c (tXT C tc)) (ha : PSs X x (tS C a)) (hb : PSs X y (tS C b)) : PS X (.If c x y pos) (tS C (mIf tc a b)) := ps_wk (ps_if hc ha hb) fun D σ H ⟨B, H0, ρ, o, sr, em, q⟩ => by
  obtain ⟨⟨c, ρ1⟩, h1, em⟩ := Option.bind_eq_some_iff.mp em
  refine ⟨B, H0, ρ, c, ρ1, sr, h1, fun H1 s1 f1 => ?_⟩
  dsimp only at em
  by_cases hc : c = true
  · rw [if_pos hc] at em ⊢
    exact ⟨B, H0, ρ1, o, s1, em, q.from f1⟩
  · rw [if_neg hc] at em ⊢
    exact ⟨B, H0, ρ1, o, s1, em, q.from f1⟩
/-! targets -/
/-- what an item must be: for a name data, for a pattern something to be read -/
def PV (C : Program × World) (K : PySem.W.Frag) (b : Bool) (H : Hp) (v : V) (d : PyData) : Prop := match b with
  | false => R C H v d
  | true => TV C K H v d
theorem PV.of {K : PySem.W.Frag} {b : Bool} {v : V} {d : PyData} (r : R C H v d) : PV C K b H v d := by
  cases b with
  | false => exact r
  | true => exact TV.of (.of r)
abbrev Mt := PyData → Env → Option Env
/-- the slots tv alone differ -/
def Agree (tv : List Nat) (σ σ' : L2.St) : Prop := σ'.length = σ.length ∧ ∀ j, j ∉ tv → σ'[j]? = σ[j]?
def tG (C : Program × World) (K : PySem.W.Frag) (b : Bool) (tv : List Nat) (f : Mt) : TG := fun v σ H Q => ∃ B H0 ρ d ρ', SR C B H0 σ H ρ ∧ PV C K b H v d ∧ f d ρ = some ρ' ∧ ∀ σ' H', SR C B H0 σ' H' ρ' → Fm H H' → Agree tv σ σ' → Q σ' H'
def tGs (C : Program × World) (tv : List Nat) (f : List PyData → Env → Option Env) : TGs := fun vs σ H Q => ∃ B H0 ρ ds ρ', SR C B H0 σ H ρ ∧ RA C H vs ds ∧ f ds ρ = some ρ' ∧ ∀ σ' H', SR C B H0 σ' H' ρ' → Fm H H' → Agree tv σ σ' → Q σ' H'
def tgN (i : Nat) : Mt := fun d ρ => some (ρ.set i (.dat d))
def tgAll : List Mt → List PyData → Env → Option Env
  | [], [], ρ => some ρ
  | f :: fs, d :: ds, ρ => (f d ρ).bind fun ρ1 => tgAll fs ds ρ1
  | _, _, _ => none
def tgT (fs : List Mt) : Mt := fun d ρ => match d with
  | .tuple ds => tgAll fs ds ρ
  | .list ds => tgAll fs ds ρ
  | _ => none
theorem pg_wk {tg : Expr} {t t' : TG} (h : PG X tg t) (w : ∀ v σ H Q, t' v σ H Q → t v σ H Q) : PG X tg t' := ⟨fun pins s σ H v u Q I r z => h.run pins s σ H v u Q I r (w v σ H Q z)⟩
theorem pgs_wk {tg : List Expr} {t t' : TGs} (h : PGs X tg t) (w : ∀ v σ H Q, t' v σ H Q → t v σ H Q) : PGs X tg t' := ⟨fun pins s σ H v u Q I r z => h.run pins s σ H v u Q I r (w v σ H Q z)⟩
theorem gg_name {K : PySem.W.Frag} {i : Nat} {x : Str} (hN : X.N.Nodup) (hi : X.N[i]? = some x) (hx : Loc X.env.scope x) (hf : X.fn x = true ∨ X.env.scope.names.lookup x = some .local := by first | exact .inl rfl | exact .inr rfl | assumption) : PG X (.Name x pos) (tG C K false [i] (tgN i)) :=
  pg_wk (pg_name hN hi hx hf) fun v σ H Q ⟨B, H0, ρ, d, ρ', sr, r, em, q⟩ => by
    cases em
    exact q _ H (sr.setDat r) (Fm.refl H) ⟨List.length_set, fun j hj => by rw [List.getElem?_set_ne (fun z => hj (by rw [z]; simp))]⟩
theorem ggs_nil : PGs X [] (tGs C [] (tgAll [])) := pgs_wk pgs_nil fun vs σ H Q ⟨B, H0, ρ, d, ρ', sr, r, em, q⟩ => by
  cases r with
  | nil =>
    cases em
    exact ⟨rfl, q σ H sr (Fm.refl H) ⟨rfl, fun _ _ => rfl⟩⟩
  | cons _ _ => cases em
theorem ggs_cons {K : PySem.W.Frag} {b : Bool} {e : Expr} {es : List Expr} {t1 t2 : List Nat} {f : Mt} {fs : List Mt} (h1 : PG X e (tG C K b t1 f)) (h2 : PGs X es (tGs C t2 (tgAll fs)))
    (hs : (assignEach (e :: es) X.env).map (·.2) = assign e X.env :: (assignEach es X.env).map (·.2) := by rfl) : PGs X (e :: es) (tGs C (t1 ++ t2) (tgAll (f :: fs))) := pgs_wk (pgs_cons h1 h2 hs) fun vs σ H Q ⟨B, H0, ρ, d, ρ', sr, r, em, q⟩ => by
  cases r with
  | nil => cases em
  | cons a t =>
    obtain ⟨ρ1, e1, em⟩ := Option.bind_eq_some_iff.mp em
    refine ⟨_, _, rfl, B, H0, ρ, _, ρ1, sr, .of a, e1, fun σ1 H1 s1 f1 k1 => ?_⟩
    refine ⟨B, H0, ρ1, _, ρ', s1, t.mono f1, em, fun σ2 H2 s2 f2 k2 => q σ2 H2 s2 (f1.trans f2) ⟨k2.1.trans k1.1, fun j hj => ?_⟩⟩
    rw [k2.2 j (fun z => hj (List.mem_append_right _ z)), k1.2 j (fun z => hj (List.mem_append_left _ z))]
theorem tgAll_len : ∀ {fs : List Mt} {ds : List PyData} {ρ ρ' : Env}, tgAll fs ds ρ = some ρ' → ds.length = fs.length
  | [], [], _, _, _ => rfl
  | f :: fs, d :: ds, _, _, e => by
    obtain ⟨ρ1, e1, em⟩ := Option.bind_eq_some_iff.mp e
    exact congrArg (· + 1) (tgAll_len em)
  | [], _ :: _, _, _, e => by cases e
  | _ :: _, [], _, _, e => by cases e
theorem gg_tup {K : PySem.W.Frag} {es : List Expr} {k : Nat} {tv : List Nat} {fs : List Mt} (hc : X.calm = true) (h : PGs X es (tGs C tv (tgAll fs))) (hK : X.K = K := by rfl)
    (hn : (assignEach es X.env).length = fs.length := by rfl) (hst : (assignEach es X.env).findIdx? (·.1) = none := by rfl) : PG X (.Tuple es k pos) (tG C K true tv (tgT fs)) := by
  subst hK
  refine ⟨fun pins s σ H v u Q I r ⟨B, H0, ρ, d, ρ', sr, rv, em, q⟩ => ?_⟩
  have rv : TV C X.K H v d := rv
  cases d with
  | tuple ds =>
    obtain ⟨p, vs, rfl, hs, hv⟩ := rv.tuple
    exact (pg_tup hc h hn hst).run pins s σ H _ u Q I r ⟨p, vs, rfl, hs, by rw [hv.length, tgAll_len em], B, H0, ρ, ds, ρ', sr, hv, em, q⟩
  | list ds =>
    obtain ⟨p, vs, rfl, hs, hv⟩ := rv.list
    exact (pg_lst hc h hn hst).run pins s σ H _ u Q I r ⟨p, vs, rfl, hs, by rw [hv.length, tgAll_len em], B, H0, ρ, ds, ρ', sr, hv, em, q⟩
  | _ => cases em
/-- a pattern gets a value -/
def mAsg (f : Mt) (m : Mi Val) : Ms := fun ρ => (fz m ρ).bind fun r => (r.1.res r.2).bind fun d => (f d r.2).map Out.nx
theorem gs_asg {tg : Expr} {tv : List Nat} {f : Mt} (he : PE X e (tX C m)) (hg : PG X tg (tG C X.K true tv f)) (hs : swapsWithSole [tg] e pos.line X.env = pure false := by rfl) (hw : swappedStores [tg] e X.env = pure none := by rfl)
    (h1 : (assignEach [tg] X.env).map (·.2) = [assign tg X.env] := by rfl) : PS X (.Assign [tg] e pos) (tS C (mAsg f m)) := ps_wk (ps_asg (pe_fz he) hg hs hw h1) fun D σ H ⟨B, H0, ρ, o, sr, em, q⟩ => by
  obtain ⟨⟨a, ρ1⟩, h1, em⟩ := Option.bind_eq_some_iff.mp em
  obtain ⟨d, h2, em⟩ := Option.bind_eq_some_iff.mp em
  obtain ⟨ρ2, h3, em⟩ := Option.map_eq_some_iff.mp em
  cases em
  exact ⟨B, H0, ρ, a, ρ1, sr, h1, fun v H1 s1 a1 f1 => ⟨B, H0, ρ1, d, ρ2, s1, TV.of (res_rv s1 a1 h2), h3, fun σ' H' s f _ => q σ' H' s (f1.trans f)⟩⟩
/-- a, b = x, y of plain names -/
def mPar (i j : Nat) (ms : List (Mi Val)) : Ms := fun ρ => (mArgs ms ρ).bind fun r => (datAll r.1).bind fun xs => match xs with
  | [x, y] => some (.nx ((r.2.set i (.dat x)).set j (.dat y)))
  | _ => none
theorem gs_par {i j : Nat} {x y : Str} {a b : Expr} {ms : List (Mi Val)} {px py pt : Pos} {kt k2 pt2} (hc : X.calm = true) (hN : X.N.Nodup) (hi : X.N[i]? = some x) (hj : X.N[j]? = some y) (hij : i ≠ j)
    (hx : X.env.scope.names.lookup x = some .local) (hy : X.env.scope.names.lookup y = some .local) (ha : PA X [a, b] (tAs C (mArgs ms)))
    (hw : swappedStores [.Tuple [.Name x px, .Name y py] kt pt] (.Tuple [a, b] k2 pt2) X.env = pure (some [x, y]))
    (hs : swapsWithSole [.Tuple [.Name x px, .Name y py] kt pt] (.Tuple [a, b] k2 pt2) pos.line X.env = pure false := by rfl) :
    PS X (.Assign [.Tuple [.Name x px, .Name y py] kt pt] (.Tuple [a, b] k2 pt2) pos) (tS C (mPar i j ms)) := ps_wk (ps_par hc hN hi hj hij hx hy ha hw hs) fun D σ H ⟨B, H0, ρ, o, sr, em, q⟩ => by
  obtain ⟨⟨as, ρ1⟩, h1, em⟩ := Option.bind_eq_some_iff.mp em
  obtain ⟨xs, h2, em⟩ := Option.bind_eq_some_iff.mp em
  refine ⟨B, H0, ρ, as, ρ1, sr, h1, fun vs H1 s1 a1 f1 => ?_⟩
  have ra := datAll_ra a1 h2
  split at em
  · cases em
    cases ra with
    | cons r1 t =>
      cases t with
      | cons r2 t =>
        cases t
        exact ⟨_, _, rfl, q _ H1 ((s1.setDat r1).setDat r2) f1⟩
  · cases em
/-! what is walked -/
def Walk (P : Hp → V → PyData → Prop) (J : It) (H1 : Hp) (xs : List PyData) : Prop := ∀ H2, Fm H1 H2 → ∀ i, (∀ d, xs[i]? = some d → J.go i H2 ∧ ∀ x H', J.yld i H2 x H' → Same H2 H' ∧ P H' x d) ∧ (xs.length ≤ i → J.stop i H2)
def tI (C : Program × World) (K : PySem.W.Frag) (b : Bool) (m : Mi (List PyData)) : TI := fun σ H Rr => ∃ B H0 ρ xs ρ', SR C B H0 σ H ρ ∧ m ρ = some (xs, ρ') ∧ ∀ J H1, SR C B H0 σ H1 ρ' → Fm H H1 → Walk (PV C K b) J H1 xs → Rr J H1
theorem pi_wk {tg it : Expr} {t t' : TI} (h : PI X tg it t) (w : ∀ σ H Q, t' σ H Q → t σ H Q) : PI X tg it t' := ⟨fun pins s σ H Q I z => h.run pins s σ H Q I (w σ H Q z)⟩
def mSrc (m : Mi Val) : Mi (List PyData) := fun ρ => (fz m ρ).bind fun r => match r.1 with
  | .d (.list xs) => some (xs, r.2)
  | .d (.tuple xs) => some (xs, r.2)
  | _ => none
theorem walk_list {K : PySem.W.Frag} {b : Bool} {p : Addr} {vs : List V} {xs : List PyData} (h : FL H p vs) (r : RA C H vs xs) : Walk (PV C K b) (Itl K p) H xs := fun H2 f i => by
  have q : SqL K H2 p vs := (h.mono f).sqL
  have r2 := r.mono f
  refine ⟨fun d e => ?_, fun l => ⟨vs, q, by rw [r2.length]; exact l⟩⟩
  obtain ⟨v, e1, e2⟩ := r2.get2 e
  exact ⟨⟨vs, v, q, e1⟩, fun x H' y => by
    obtain ⟨e3, y⟩ := y
    subst e3
    have e4 := y vs q
    rw [e1] at e4
    cases e4
    exact ⟨Same.refl _, .of e2⟩⟩
theorem walk_tup {K : PySem.W.Frag} {b : Bool} {p : Addr} {vs : List V} {xs : List PyData} (h : FT H p vs) (r : RA C H vs xs) : Walk (PV C K b) (Itt K p) H xs := fun H2 f i => by
  have q : SqT K H2 p vs := (f.ft h).sqT
  have r2 := r.mono f
  refine ⟨fun d e => ?_, fun l => ⟨vs, q, by rw [r2.length]; exact l⟩⟩
  obtain ⟨v, e1, e2⟩ := r2.get2 e
  exact ⟨⟨vs, v, q, e1⟩, fun x H' y => by
    obtain ⟨e3, y⟩ := y
    subst e3
    have e4 := y vs q
    rw [e1] at e4
    cases e4
    exact ⟨Same.refl _, .of e2⟩⟩
theorem gi_seq {K : PySem.W.Frag} {b : Bool} {tg l : Expr} (hl : PE X l (tX C m)) (hK : X.K = K := by rfl) : PI X tg l (tI C K b (mSrc m)) := by
  subst hK
  refine ⟨fun pins s σ H Rr I ⟨B, H0, ρ, xs, ρ', sr, em, q⟩ => ?_⟩
  obtain ⟨⟨a, ρ1⟩, h1, em⟩ := Option.bind_eq_some_iff.mp em
  cases a with
  | d x => cases x with
    | list ds =>
      cases em
      refine (pi_list (pe_fz hl)).run pins s σ H Rr I ⟨B, H0, ρ, _, _, sr, h1, fun v H1 s1 r1 f1 => ?_⟩
      cases r1 with
      | lst h t => exact ⟨_, rfl, ⟨_, h.sqL⟩, q _ H1 s1 f1 (walk_list h t)⟩
    | tuple ds =>
      cases em
      refine (pi_tup (pe_fz hl)).run pins s σ H Rr I ⟨B, H0, ρ, _, _, sr, h1, fun v H1 s1 r1 f1 => ?_⟩
      cases r1 with
      | tup h t => exact ⟨_, rfl, ⟨_, h.sqT⟩, q _ H1 s1 f1 (walk_tup h t)⟩
    | _ => cases em
  | b j => cases em
def intsFrom (lo : Int) (n : Nat) : List PyData := (List.range n).map fun (k : Nat) => .int (lo + (k : Int))
def mRng1 (ms : List (Mi Val)) : Mi (List PyData) := fun ρ => (mArgs ms ρ).bind fun r => (datAll r.1).bind fun xs => match xs with
  | [.int j] => if -(2 ^ 62) ≤ j ∧ j < 2 ^ 62 then some (intsFrom 0 j.toNat, r.2) else none
  | _ => none
def mRng2 (ms : List (Mi Val)) : Mi (List PyData) := fun ρ => (mArgs ms ρ).bind fun r => (datAll r.1).bind fun xs => match xs with
  | [.int i, .int j] => if -(2 ^ 62) ≤ i ∧ i < 2 ^ 62 ∧ -(2 ^ 62) ≤ j ∧ j < 2 ^ 62 then some (intsFrom i (j - i).toNat, r.2) else none
  | _ => none
theorem walk_rng {K : PySem.W.Frag} {b : Bool} {lo : Int} {n : Nat} : Walk (PV C K b) (Itr lo n) H (intsFrom lo n) := fun H2 f i => by
  refine ⟨fun d e => ?_, fun l => ?_⟩
  · unfold intsFrom at e
    rw [List.getElem?_map] at e
    obtain ⟨k, e1, e2⟩ := Option.map_eq_some_iff.mp e
    have hk := (List.getElem?_eq_some_iff.mp e1)
    obtain ⟨hk1, hk2⟩ := hk
    rw [List.length_range] at hk1
    rw [List.getElem_range] at hk2
    subst hk2
    refine ⟨hk1, fun x H' y => ?_⟩
    obtain ⟨rfl, rfl⟩ := y
    cases e2
    exact ⟨Same.refl _, .of (.int _)⟩
  · show n ≤ i
    unfold intsFrom at l
    simpa using l
theorem gi_range1 {K : PySem.W.Frag} {b : Bool} {tg a : Expr} {ms : List (Mi Val)} {p pos : Pos} (hg : Gl X "range") (hm : X.mg "range" = none) (ha : PA X [a] (tAs C (mArgs ms))) (hs : starEach [a] X.env = [(false, eval a X.env)] := by rfl) : PI X tg (.Call (.Name "range" p) [a] [] pos) (tI C K b (mRng1 ms)) :=
  pi_wk (pi_range1 hg hm ha hs) fun σ H Rr ⟨B, H0, ρ, xs, ρ', sr, em, q⟩ => by
    obtain ⟨⟨as, ρ1⟩, h1, em⟩ := Option.bind_eq_some_iff.mp em
    obtain ⟨ds, h2, em⟩ := Option.bind_eq_some_iff.mp em
    refine ⟨B, H0, ρ, as, ρ1, sr, h1, fun vs H1 s1 a1 f1 => ?_⟩
    have ra := datAll_ra a1 h2
    split at em
    · split at em
      · next j hj =>
        cases em
        cases ra with
        | cons r1 t =>
          cases t
          cases r1
          exact ⟨j, rfl, hj.1, hj.2, q _ H1 s1 f1 walk_rng⟩
      · cases em
    · cases em
theorem gi_range2 {K : PySem.W.Frag} {b : Bool} {tg a a2 : Expr} {ms : List (Mi Val)} {p pos : Pos} (hg : Gl X "range") (hm : X.mg "range" = none) (ha : PA X [a, a2] (tAs C (mArgs ms))) (hs : starEach [a, a2] X.env = [(false, eval a X.env), (false, eval a2 X.env)] := by rfl) (hs2 : starEach [a2] X.env = [(false, eval a2 X.env)] := by rfl) : PI X tg (.Call (.Name "range" p) [a, a2] [] pos) (tI C K b (mRng2 ms)) :=
  pi_wk (pi_range2 hg hm ha hs hs2) fun σ H Rr ⟨B, H0, ρ, xs, ρ', sr, em, q⟩ => by
    obtain ⟨⟨as, ρ1⟩, h1, em⟩ := Option.bind_eq_some_iff.mp em
    obtain ⟨ds, h2, em⟩ := Option.bind_eq_some_iff.mp em
    refine ⟨B, H0, ρ, as, ρ1, sr, h1, fun vs H1 s1 a1 f1 => ?_⟩
    have ra := datAll_ra a1 h2
    split at em
    · split at em
      · next i j hj =>
        cases em
        cases ra with
        | cons r1 t =>
          cases t with
          | cons r2 t =>
            cases t
            cases r1
            cases r2
            exact ⟨i, j, rfl, hj, q _ H1 s1 f1 walk_rng⟩
      · cases em
    · cases em
/-! for, while -/
def goFor (f : Mt) (body : Ms) : List PyData → Ms
  | [], ρ => some (.nx ρ)
  | x :: xs, ρ => (f x ρ).bind fun ρ1 => (body ρ1).bind fun o => match o with
    | .nx ρ2 => goFor f body xs ρ2
    | .ct ρ2 => goFor f body xs ρ2
    | .bk ρ2 => some (.nx ρ2)
    | o => some o
def mFor (src : Mi (List PyData)) (f : Mt) (body : Ms) : Ms := fun ρ => (src ρ).bind fun r => goFor f body r.1 r.2
theorem gs_for {tg iter : Expr} {body : List Stmt} {b : Bool} {tv : List Nat} {f : Mt} {src : Mi (List PyData)} {mb : Ms} (hp : PassesOwn (model X.prog X.w) X.A X.env X.xe) (hc : X.calm = true) (hi : PI X tg iter (tI C X.K b src)) (hg : PG X tg (tG C X.K b tv f)) (hb : PSs X body (tS C mb))
    (hs : ∀ x, foldedSetIterable iter X.env x = pure x := by intro _; rfl) : PS X (.For tg iter body [] pos) (tS C (mFor src f mb)) := ps_wk (ps_for hp hc hi hg hb hs) fun D σ H ⟨B, H0, ρ, o, sr, em, q⟩ => by
  obtain ⟨⟨xs, ρ1⟩, h1, em⟩ := Option.bind_eq_some_iff.mp em
  refine ⟨B, H0, ρ, xs, ρ1, sr, h1, fun J H1 s1 f1 wk => ?_⟩
  have q1 := q.from f1
  refine ⟨fun i m σ' H' => m = xs.length - i ∧ i ≤ xs.length ∧ Fm H1 H' ∧ ∃ ρ', SR C B H0 σ' H' ρ' ∧ goFor f mb (xs.drop i) ρ' = some o, ⟨xs.length, by simp, Nat.zero_le _, Fm.refl H1, ρ1, s1, em⟩, ?_⟩
  rintro i m σ2 H2 ⟨rfl, hi, f2, ρ2, s2, e2⟩
  obtain ⟨w1, w2⟩ := wk H2 f2 i
  by_cases hlt : i < xs.length
  · obtain ⟨g, y⟩ := w1 xs[i] (List.getElem?_eq_getElem hlt)
    have ed : xs.drop i = xs[i] :: xs.drop (i + 1) := List.drop_eq_getElem_cons hlt
    rw [ed] at e2
    unfold goFor at e2
    obtain ⟨ρ3, e3, e2⟩ := Option.bind_eq_some_iff.mp e2
    obtain ⟨o4, e4, e2⟩ := Option.bind_eq_some_iff.mp e2
    refine .inr ⟨g, fun σ' H' => Fm H1 H' ∧ ∃ ρ', SR C B H0 σ' H' ρ' ∧ goFor f mb (xs.drop (i + 1)) ρ' = some o, fun σ' H' ⟨a1, a2⟩ => ⟨xs.length - (i + 1), by omega, rfl, hlt, a1, a2⟩, fun x H' hy => ?_⟩
    obtain ⟨sm, pv⟩ := y x H' hy
    refine ⟨B, H0, ρ2, xs[i], ρ3, s2.same sm, pv, e3, fun σ3 H3 s3 f3 _ => ?_⟩
    have fA : Fm H1 H3 := f2.trans ((Fm.of sm).trans f3)
    refine ⟨B, H0, ρ3, o4, s3, e4, ?_⟩
    cases o4 with
    | nx ρ4 => exact fun σ4 H4 s4 f4 => ⟨fA.trans f4, ρ4, s4, e2⟩
    | ct ρ4 => exact fun σ4 H4 s4 f4 => ⟨fA.trans f4, ρ4, s4, e2⟩
    | bk ρ4 =>
      cases e2
      exact fun σ4 H4 s4 f4 => q1 σ4 H4 s4 (fA.trans f4)
    | rt d ρ4 =>
      cases e2
      exact fun v σ4 H4 s4 f4 r => q1 v σ4 H4 s4 (fA.trans f4) r
    | ro d ρ4 =>
      cases e2
      exact fun p σ4 H4 s4 f4 => q1 p σ4 H4 s4 (fA.trans f4)
    | rp d ρ4 =>
      cases e2
      exact fun p F σ4 H4 s4 f4 r => q1 p F σ4 H4 s4 (fA.trans f4) r
  · have ei : xs.drop i = [] := List.drop_eq_nil_of_le (by omega)
    rw [ei] at e2
    cases e2
    exact .inl ⟨w2 (by omega), q1 σ2 H2 s2 f2⟩
def mWhile (c : Mi Bool) (body : Ms) : Nat → Ms
  | 0, _ => none
  | n + 1, ρ => (c ρ).bind fun r => if r.1 = true then (body r.2).bind fun o => match o with
      | .nx ρ2 => mWhile c body n ρ2
      | .ct ρ2 => mWhile c body n ρ2
      | .bk ρ2 => some (.nx ρ2)
      | o => some o
    else some (.nx r.2)
theorem gs_while {c : Expr} {body : List Stmt} {mc : Mi Bool} {mb : Ms} (n : Nat) (hp : PassesOwn (model X.prog X.w) X.A X.env X.xe) (hc : PT X c (tXT C mc)) (hb : PSs X body (tS C mb)) : PS X (.While c body [] pos) (tS C (mWhile mc mb n)) := ps_wk (ps_while hp hc hb) fun D σ H ⟨B, H0, ρ, o, sr, em, q⟩ => by
  refine ⟨fun m σ' H' => Fm H H' ∧ ∃ ρ', SR C B H0 σ' H' ρ' ∧ mWhile mc mb m ρ' = some o, ⟨n, Fm.refl H, ρ, sr, em⟩, ?_⟩
  rintro m σ2 H2 ⟨f2, ρ2, s2, e2⟩
  cases m with
  | zero => cases e2
  | succ m =>
    unfold mWhile at e2
    obtain ⟨⟨k, ρ3⟩, e3, e2⟩ := Option.bind_eq_some_iff.mp e2
    refine ⟨B, H0, ρ2, k, ρ3, s2, e3, fun H3 s3 f3 => ?_⟩
    dsimp only at e2
    by_cases hk : k = true
    · rw [if_pos hk] at e2 ⊢
      obtain ⟨o4, e4, e2⟩ := Option.bind_eq_some_iff.mp e2
      refine ⟨fun σ' H' => Fm H H' ∧ ∃ ρ', SR C B H0 σ' H' ρ' ∧ mWhile mc mb m ρ' = some o, fun σ' H' z => ⟨m, Nat.lt_succ_self m, z⟩, ?_⟩
      have fA := f2.trans f3
      refine ⟨B, H0, ρ3, o4, s3, e4, ?_⟩
      cases o4 with
      | nx ρ4 => exact fun σ4 H4 s4 f4 => ⟨fA.trans f4, ρ4, s4, e2⟩
      | ct ρ4 => exact fun σ4 H4 s4 f4 => ⟨fA.trans f4, ρ4, s4, e2⟩
      | bk ρ4 =>
        cases e2
        exact fun σ4 H4 s4 f4 => q σ4 H4 s4 (fA.trans f4)
      | rt d ρ4 =>
        cases e2
        exact fun v σ4 H4 s4 f4 r => q v σ4 H4 s4 (fA.trans f4) r
      | ro d ρ4 =>
        cases e2
        exact fun p σ4 H4 s4 f4 => q p σ4 H4 s4 (fA.trans f4)
      | rp d ρ4 =>
        cases e2
        exact fun p F σ4 H4 s4 f4 r => q p F σ4 H4 s4 (fA.trans f4) r
    · rw [if_neg hk] at e2 ⊢
      cases e2
      exact q σ2 H3 s3 (f2.trans f3)
end
end G
/-! dicts: keys that are numbers and texts, keys that are tuples -/
namespace G
open PySem PyProof.Rows L2 HD
mutual
def toNK : PyData → Option NestedKey
  | .int i => some (.num i)
  | .str x => some (.text x)
  | .none => some .none
  | .tuple ds => (toNKs ds).map .tup
  | _ => none
def toNKs : List PyData → Option (List NestedKey)
  | [] => some []
  | d :: ds => (toNK d).bind fun k => (toNKs ds).map fun ks => k :: ks
end
def toK : PyData → Option Key
  | .int i => some (.inl i)
  | .str x => some (.inr x)
  | _ => none
theorem kD_toK {d : PyData} {k : Key} (h : toK d = some k) : d = kD k := by
  cases d <;> first | (cases h; rfl) | cases h
mutual
theorem nkD_toNK : ∀ (d : PyData) (k : NestedKey), toNK d = some k → d = nkD k
  | .int i, _, h => by cases h; rfl
  | .str x, _, h => by cases h; rfl
  | .none, _, h => by cases h; rfl
  | .tuple ds, k, h => by
    rw [toNK] at h
    obtain ⟨ks, h1, rfl⟩ := Option.map_eq_some_iff.mp h
    rw [nkD, nkDs_toNKs ds ks h1]
  | .bool _, _, h => by cases h
  | .list _, _, h => by cases h
  | .dict _, _, h => by cases h
theorem nkDs_toNKs : ∀ (ds : List PyData) (ks : List NestedKey), toNKs ds = some ks → ds = nkDs ks
  | [], _, h => by cases h; rfl
  | d :: ds, k, h => by
    rw [toNKs] at h
    obtain ⟨k1, h1, h⟩ := Option.bind_eq_some_iff.mp h
    obtain ⟨ks, h2, rfl⟩ := Option.map_eq_some_iff.mp h
    rw [nkDs, ← nkD_toNK d k1 h1, ← nkDs_toNKs ds ks h2]
end
mutual
theorem toNK_nkD : ∀ k : NestedKey, toNK (nkD k) = some k
  | .num i => rfl
  | .text x => rfl
  | .none => rfl
  | .tup ks => by rw [nkD, toNK, toNKs_nkDs ks]; rfl
theorem toNKs_nkDs : ∀ ks : List NestedKey, toNKs (nkDs ks) = some ks
  | [] => rfl
  | k :: ks => by rw [nkDs, toNKs, toNK_nkD k, toNKs_nkDs ks]; rfl
end
theorem toK_kD : ∀ k : Key, toK (kD k) = some k
  | .inl i => rfl
  | .inr x => rfl
/-! looking up, putting, dropping -/
def lookP {κ : Type} [DecidableEq κ] (es : List (κ × PyData)) (k : κ) : Option PyData := (es.find? fun e => decide (e.1 = k)).map (·.2)
def putP {κ : Type} [DecidableEq κ] (es : List (κ × PyData)) (k : κ) (d : PyData) : List (κ × PyData) := if (lookP es k).isSome then es.map fun e => if e.1 = k then (e.1, d) else e else es ++ [(k, d)]
def dropP {κ : Type} [DecidableEq κ] (es : List (κ × PyData)) (k : κ) : List (κ × PyData) := es.filter fun e => decide (e.1 ≠ k)
section
variable {C : Program × World} {H : Hp} {κ : Type} [DecidableEq κ]
theorem KR.look {k : κ} : ∀ {kvs : List (κ × V)} {es : List (κ × PyData)}, KR C H kvs es → (valV kvs k = none ∧ lookP es k = none) ∨ ∃ v d, valV kvs k = some v ∧ lookP es k = some d ∧ R C H v d
  | _, _, .nil => .inl ⟨rfl, rfl⟩
  | (a, v) :: kvs, (b, d) :: es, .cons r t => by
    obtain ⟨r1, r2⟩ := r
    have r1 : a = b := r1
    subst r1
    unfold valV lookP
    by_cases h : a = k
    · rw [List.find?_cons_of_pos (by simpa using h), List.find?_cons_of_pos (by simpa using h)]
      exact .inr ⟨v, d, rfl, rfl, r2⟩
    · rw [List.find?_cons_of_neg (by simpa using h), List.find?_cons_of_neg (by simpa using h)]
      exact KR.look t
theorem KR.mapP {k : κ} {v : V} {d : PyData} (r : R C H v d) : ∀ {kvs : List (κ × V)} {es : List (κ × PyData)}, KR C H kvs es → KR C H (kvs.map fun kv => if kv.1 = k then (kv.1, v) else kv) (es.map fun e => if e.1 = k then (e.1, d) else e)
  | _, _, .nil => .nil
  | (a, x) :: kvs, (b, y) :: es, .cons q t => by
    obtain ⟨q1, q2⟩ := q
    have q1 : a = b := q1
    subst q1
    rw [List.map_cons, List.map_cons]
    refine .cons ?_ (KR.mapP r t)
    dsimp only
    by_cases h : a = k
    · rw [if_pos h, if_pos h]
      exact ⟨rfl, r⟩
    · rw [if_neg h, if_neg h]
      exact ⟨rfl, q2⟩
theorem Paired.app {α β : Type} {F : α → β → Prop} : ∀ {l₁ k₁ : List α} {l₂ k₂ : List β}, Paired F l₁ l₂ → Paired F k₁ k₂ → Paired F (l₁ ++ k₁) (l₂ ++ k₂)
  | _, _, _, _, .nil, h => h
  | _, _, _, _, .cons a t, h => .cons a (Paired.app t h)
theorem KR.put {kvs : List (κ × V)} {es : List (κ × PyData)} {k : κ} {v : V} {d : PyData} (h : KR C H kvs es) (r : R C H v d) : KR C H (putK kvs k v) (putP es k d) := by
  unfold putK putP
  rcases h.look (k := k) with ⟨a, b⟩ | ⟨v', d', a, b, _⟩
  · have e1 : (kvs.any fun kv => decide (kv.1 = k)) = false := by
      unfold valV at a
      rw [Option.map_eq_none_iff, List.find?_eq_none] at a
      rw [List.any_eq_false]
      exact a
    rw [e1, b, if_neg (by simp), if_neg (by simp)]
    exact Paired.app h (.cons ⟨rfl, r⟩ .nil)
  · have e1 : (kvs.any fun kv => decide (kv.1 = k)) = true := by
      unfold valV at a
      obtain ⟨p, hp, _⟩ := Option.map_eq_some_iff.mp a
      exact List.any_eq_true.mpr ⟨p, List.mem_of_find?_eq_some hp, List.find?_some (p := fun kv : κ × V => decide (kv.1 = k)) hp⟩
    rw [e1, b, if_pos rfl, if_pos (by rfl)]
    exact h.mapP r
theorem KR.drop {k : κ} : ∀ {kvs : List (κ × V)} {es : List (κ × PyData)}, KR C H kvs es → KR C H (dropK kvs k) (dropP es k)
  | _, _, .nil => .nil
  | (a, x) :: kvs, (b, y) :: es, .cons q t => by
    obtain ⟨q1, q2⟩ := q
    have q1 : a = b := q1
    subst q1
    unfold dropK dropP
    by_cases h : a = k
    · rw [List.filter_cons_of_neg (by simpa using h), List.filter_cons_of_neg (by simpa using h)]
      exact KR.drop t
    · rw [List.filter_cons_of_pos (by simpa using h), List.filter_cons_of_pos (by simpa using h)]
      exact .cons ⟨rfl, q2⟩ (KR.drop t)
theorem KR.length {kvs : List (κ × V)} {es : List (κ × PyData)} (h : KR C H kvs es) : kvs.length = es.length := Paired.length h
abbrev ER (C : Program × World) (H : Hp) (x : NestedKey × Addr × Value) (e : NestedKey × PyData) : Prop := x.1 = e.1 ∧ R C H (.ref x.2.1) (nkD x.1) ∧ ∃ v, RelV v x.2.2 ∧ R C H v e.2
theorem ent_look {k : NestedKey} : ∀ {xs : List (NestedKey × Addr × Value)} {es : List (NestedKey × PyData)}, Paired (ER C H) xs es → (atKey xs k = none ∧ lookP es k = none) ∨ ∃ p v d, atKey xs k = some p ∧ lookP es k = some d ∧ RelV v p.2 ∧ R C H v d
  | _, _, .nil => .inl ⟨rfl, rfl⟩
  | (a, b, u) :: xs, (c, d) :: es, .cons r t => by
    obtain ⟨r1, r2, v, r3, r4⟩ := r
    have r1 : a = c := r1
    subst r1
    unfold atKey lookP
    by_cases h : a = k
    · rw [List.find?_cons_of_pos (by simpa using h), List.find?_cons_of_pos (by simpa using h)]
      exact .inr ⟨(b, u), v, d, rfl, rfl, r3, r4⟩
    · rw [List.find?_cons_of_neg (by simpa using h), List.find?_cons_of_neg (by simpa using h)]
      exact ent_look t
theorem ent_map {k : NestedKey} {u : Value} {v : V} {d : PyData} (ru : RelV v u) (r : R C H v d) : ∀ {xs : List (NestedKey × Addr × Value)} {es : List (NestedKey × PyData)}, Paired (ER C H) xs es → Paired (ER C H) (xs.map (putAt k u)) (es.map fun e => if e.1 = k then (e.1, d) else e)
  | _, _, .nil => .nil
  | (a, b, u) :: xs, (c, d) :: es, .cons q t => by
    obtain ⟨q1, q2, w, q3, q4⟩ := q
    have q1 : a = c := q1
    subst q1
    rw [List.map_cons, List.map_cons]
    refine .cons ?_ (ent_map ru r t)
    unfold putAt
    dsimp only
    by_cases h : a = k
    · rw [if_pos h, if_pos h]
      exact ⟨rfl, q2, v, ru, r⟩
    · rw [if_neg h, if_neg h]
      exact ⟨rfl, q2, w, q3, q4⟩
theorem ent_put {xs : List (NestedKey × Addr × Value)} {es : List (NestedKey × PyData)} {k : NestedKey} {b : Addr} {u : Value} {v : V} {d : PyData} (h : Paired (ER C H) xs es) (hb : R C H (.ref b) (nkD k)) (ru : RelV v u) (r : R C H v d) : Paired (ER C H) (storedH xs k b u) (putP es k d) := by
  unfold storedH putP
  rcases ent_look (k := k) h with ⟨e1, e2⟩ | ⟨p, v', d', e1, e2, _⟩
  · rw [e1, e2, if_neg (by simp), if_neg (by simp)]
    exact Paired.app h (.cons ⟨rfl, hb, v, ru, r⟩ .nil)
  · rw [e1, e2, if_pos (by rfl), if_pos (by rfl)]
    exact ent_map ru r h
theorem ent_drop {k : NestedKey} : ∀ {xs : List (NestedKey × Addr × Value)} {es : List (NestedKey × PyData)}, Paired (ER C H) xs es → Paired (ER C H) (withoutH xs k) (dropP es k)
  | _, _, .nil => .nil
  | (a, b, u) :: xs, (c, d) :: es, .cons q t => by
    have q1 : a = c := q.1
    subst q1
    unfold withoutH dropP
    by_cases h : a = k
    · rw [List.filter_cons_of_neg (by simpa using h), List.filter_cons_of_neg (by simpa using h)]
      exact ent_drop t
    · rw [List.filter_cons_of_pos (by simpa using h), List.filter_cons_of_pos (by simpa using h)]
      exact .cons q (ent_drop t)
end
/-! on data -/
/-- a dict's entries as they are read -/
def lookD (l : List (PyData × PyData)) (k : PyData) : Option PyData := match toK k with
  | some k => lookP (l.filterMap fun e => (toK e.1).map fun a => (a, e.2)) k
  | none => (toNK k).bind fun k => lookP (l.filterMap fun e => (toNK e.1).map fun a => (a, e.2)) k
/-- the kind of a dict's keys is that of the key -/
def kindOk (l : List (PyData × PyData)) (k : PyData) : Bool := match toK k with
  | some _ => l.all fun e => (toK e.1).isSome
  | none => l.all fun e => (toK e.1).isNone
theorem fm_kD (es : List (Key × PyData)) : (es.map fun e => (kD e.1, e.2)).filterMap (fun e => (toK e.1).map fun a => (a, e.2)) = es := by
  rw [List.filterMap_map]
  have : ((fun e : PyData × PyData => (toK e.1).map fun a => (a, e.2)) ∘ fun e : Key × PyData => (kD e.1, e.2)) = some := by
    funext e
    show (toK (kD e.1)).map _ = _
    rw [toK_kD]
    rfl
  rw [this, List.filterMap_some]
theorem fm_nkD (es : List (NestedKey × PyData)) : (es.map fun e => (nkD e.1, e.2)).filterMap (fun e => (toNK e.1).map fun a => (a, e.2)) = es := by
  rw [List.filterMap_map]
  have : ((fun e : PyData × PyData => (toNK e.1).map fun a => (a, e.2)) ∘ fun e : NestedKey × PyData => (nkD e.1, e.2)) = some := by
    funext e
    show (toNK (nkD e.1)).map _ = _
    rw [toNK_nkD]
    rfl
  rw [this, List.filterMap_some]
section
variable {X : Cx} {pins : List (Addr × Obj)} {σ : L2.St} {H : Hp} {s : Shared}
mutual
theorem nk_is (I : Inv X pins σ H s) : ∀ (d : PyData) (v : V) (u : Value) (k : NestedKey), R (X.prog, X.w) H v d → toNK d = some k → RelV v u → NestedIs s.heap k u
  | .int i, _, _, _, r, e, ru => by
    cases r
    cases e
    obtain ⟨t, rfl⟩ := ru
    exact .int _ _
  | .str x, _, _, _, r, e, ru => by
    cases r
    cases e
    obtain ⟨t, rfl⟩ := ru
    exact .text _ _
  | .none, _, _, _, r, e, ru => by
    cases r
    cases e
    obtain rfl := ru
    exact .none
  | .tuple ds, _, _, k, r, e, ru => by
    rw [toNK] at e
    obtain ⟨ks, h1, rfl⟩ := Option.map_eq_some_iff.mp e
    cases r with
    | tup h t =>
      cases ru
      obtain ⟨o, ho, hc, hd⟩ := h
      obtain ⟨_, _, its, rv, o', g1, g2, n, g3⟩ := I.hok _ _ ho
      exact .tup g1 g2 g3 (by simpa using nks_is I ds _ its ks t h1 rv)
  | .bool _, _, _, _, _, h, _ => by cases h
  | .list _, _, _, _, _, h, _ => by cases h
  | .dict _, _, _, _, _, h, _ => by cases h
theorem nks_is (I : Inv X pins σ H s) : ∀ (ds : List PyData) (vs : List V) (us : List Value) (ks : List NestedKey), RA (X.prog, X.w) H vs ds → toNKs ds = some ks → Vals vs us → NestedAll s.heap ks us
  | [], _, _, _, r, e, ru => by
    cases r
    cases e
    cases ru
    exact .nil
  | d :: ds, _, _, k, r, e, ru => by
    rw [toNKs] at e
    obtain ⟨k1, h1, e⟩ := Option.bind_eq_some_iff.mp e
    obtain ⟨ks, h2, rfl⟩ := Option.map_eq_some_iff.mp e
    cases r with
    | cons r1 r2 =>
      cases ru with
      | cons u1 u2 => exact .cons (nk_is I d _ _ k1 r1 h1 u1) (nks_is I ds _ _ ks r2 h2 u2)
end
theorem rd_ext {φ : Heap → Prop} {p : Addr} (I : Inv X pins σ H s) (h : Rd H p (.ext φ)) : φ s.heap := by
  rcases h with h | ⟨o, h⟩
  · obtain ⟨a, _⟩ := I.hok p _ h
    exact a
  · obtain ⟨_, a, _⟩ := I.hok p _ h
    exact a
theorem dn_dict (I : Inv X pins σ H s) {p : Addr} {xs : List (NestedKey × Addr × Value)} {es : List (NestedKey × PyData)} (h : Rd H p (HT.tiedO X.prog X.w p xs)) (hd : DN (X.prog, X.w) H xs es) : s.heap.DictOfH (nestedKind X.prog X.w) p xs ∧ (p == sysModules) = false := by
  obtain ⟨o, es', ep, a1, a2, a3, a4, a5⟩ := rd_ext I h
  exact ⟨⟨o, es', ep, a1, a2, a3, a4, fun x hx => ⟨nk_is I _ _ _ _ ((DN.flat hd.ent).2.1 x hx) (toNK_nkD x.1) rfl, hd.nd.2 x hx⟩, hd.nd.1⟩, a5⟩
end
def keyOk (k : PyData) : Bool := match toK k with
  | some _ => true
  | none => match toNK k with
    | some (.tup ks) => decide ((NestedKey.tup ks).depth ≤ 8)
    | _ => false
def dGood (l : List (PyData × PyData)) (k : PyData) : Bool := keyOk k && kindOk l k
theorem kD_inj {a b : Key} (h : kD a = kD b) : a = b := by
  have := congrArg toK h
  rw [toK_kD, toK_kD] at this
  exact Option.some.inj this
theorem keyOk_cases {k : PyData} (h : keyOk k = true) : (∃ k', toK k = some k' ∧ k = kD k') ∨ ∃ ks ds, toK k = none ∧ toNK k = some (.tup ks) ∧ k = .tuple ds ∧ (NestedKey.tup ks).depth ≤ 8 := by
  unfold keyOk at h
  split at h
  · next k' e => exact .inl ⟨k', e, kD_toK e⟩
  · next e =>
    split at h
    · next ks e2 =>
      refine .inr ⟨ks, ?_⟩
      cases k with
      | tuple ds => exact ⟨ds, e, e2, rfl, of_decide_eq_true h⟩
      | int i => cases e
      | str x => cases e
      | none => cases e2
      | bool b => cases e2
      | list l => cases e2
      | dict l => cases e2
    · cases h
theorem all_kD (es : List (Key × PyData)) (h : ((es.map fun e => (kD e.1, e.2)).all fun e => (toK e.1).isNone) = true) : es = [] := by
  cases es with
  | nil => rfl
  | cons e es =>
    simp only [List.map_cons, List.all_cons, toK_kD] at h
    simp at h
theorem R.kV {C : Program × World} {H : Hp} {v : V} {k : Key} (h : R C H v (kD k)) : v = kV k := by
  cases k with
  | inl i => cases h; rfl
  | inr x => cases h; rfl
theorem nk_tup (C : Program × World) {H : Hp} {xs : List (NestedKey × Addr × Value)} {es : List (NestedKey × PyData)} (h : Paired (ER C H) xs es) : ∀ e ∈ es, ∃ ks, e.1 = .tup ks := by
  induction h with
  | nil => intro e he; cases he
  | cons r t ih =>
    intro e he
    rcases List.mem_cons.mp he with rfl | he
    · obtain ⟨h1, h2, _⟩ := r
      rw [← h1]
      generalize (_ : NestedKey × Addr × Value).1 = k at h2 ⊢
      cases k with
      | tup ks => exact ⟨ks, rfl⟩
      | num i => cases h2
      | text x => cases h2
      | none => cases h2
    · exact ih e he
theorem all_nkD (C : Program × World) {H : Hp} {xs : List (NestedKey × Addr × Value)} {es : List (NestedKey × PyData)} (hp : Paired (ER C H) xs es) (h : ((es.map fun e => (nkD e.1, e.2)).all fun e => (toK e.1).isSome) = true) : es = [] := by
  cases es with
  | nil => rfl
  | cons e es =>
    obtain ⟨ks, hk⟩ := nk_tup C hp e (List.mem_cons_self ..)
    simp only [List.map_cons, List.all_cons, hk, nkD] at h
    simp [toK] at h
/-- what a look-up finds: none, or a value that stands for the data -/
def Found (C : Program × World) (H : Hp) (o : Option PyData) (r : Option V) : Prop := match o, r with
  | none, none => True
  | some d, some v => R C H v d
  | _, _ => False
section
variable {X : Cx} {pins : List (Addr × Obj)} {σ : L2.St} {H : Hp} {s : Shared} {A : Around} {E : Value → Shared → Prop}
/-- a dict with nothing in it is of either kind -/
theorem empty_dN (I : Inv X pins σ H s) {p : Addr} (h : Rd H p (.dK [])) : s.heap.DictOfH (nestedKind X.prog X.w) p [] ∧ (p == sysModules) = false := by
  obtain ⟨_, hd, vs, rel, o, es, ep, a1, a2, a3, a4, a5, a6⟩ := h.ok I.hok
  cases rel
  have e0 : es.toList = [] := by
    generalize es.toList = l at a5
    cases a5
    rfl
  exact ⟨⟨o, es, ep, a1, a2, a3, e0, fun x hx => (nomatch hx), List.nodup_nil⟩, hd⟩
theorem empty_dK (I : Inv X pins σ H s) {p : Addr} (h : Rd H p (HT.tiedO X.prog X.w p [])) : s.heap.DictOf (mixKind X.prog X.w) p [] ∧ (p == sysModules) = false := by
  obtain ⟨o, es', ep, a1, a2, a3, a4, a5⟩ := rd_ext I h
  have e0 : es' = #[] := by simpa using a4
  subst e0
  exact ⟨⟨o, #[], ep, a1, a2, a3, fun e he => by simp at he, .nil, List.nodup_nil⟩, a5⟩
/-- the two ways a dict and a key may stand -/
theorem d_cases (I : Inv X pins σ H s) {x y : V} {l : List (PyData × PyData)} {k : PyData} {u : Value} (hx : RV (X.prog, X.w) X.K H x (.dict l)) (hy : R (X.prog, X.w) H y k) (ru : RelV y u) (g : dGood l k = true) :
    ∃ p, x = .ref p ∧ (p == sysModules) = false ∧ s.TypeIs (.ref p) "dict" ∧ (∃ ob, s.heap.get? p = some ob ∧ ob.dict = none) ∧
    ((∃ k' vs, keyIs k' u = true ∧ s.heap.DictOf (mixKind X.prog X.w) p vs ∧ ∃ r, RelO r (valueAt vs k') ∧ Found (X.prog, X.w) H (lookD l k) r) ∨
      ∃ nk b xs, u = .ref b ∧ (nestedKind X.prog X.w).is s.heap nk b ∧ s.heap.DictOfH (nestedKind X.prog X.w) p xs ∧ ∃ r, RelO r ((atKey xs nk).map (·.2)) ∧ Found (X.prog, X.w) H (lookD l k) r) := by
  unfold dGood at g
  rw [Bool.and_eq_true] at g
  obtain ⟨g1, g2⟩ := g
  have noD : ∀ {p : Addr} {vs}, s.heap.DictOf (mixKind X.prog X.w) p vs → ∃ ob, s.heap.get? p = some ob ∧ ob.dict = none := fun {p vs} ⟨ob, _, _, e1, e2, _⟩ => ⟨ob, e1, e2.2.1⟩
  have noN : ∀ {p : Addr} {vs}, s.heap.DictOfH (nestedKind X.prog X.w) p vs → ∃ ob, s.heap.get? p = some ob ∧ ob.dict = none := fun {p vs} ⟨ob, _, _, e1, e2, _⟩ => ⟨ob, e1, e2.2.1⟩
  rcases hx.dict with ⟨p, kvs, es, rfl, h1, h2, rfl⟩ | ⟨p, xs, es, rfl, h1, h2, rfl⟩
  · rcases keyOk_cases g1 with ⟨k', e1, rfl⟩ | ⟨ks, ds, e1, e2, rfl, e3⟩
    · obtain ⟨z, hd, vs, rel, dd⟩ := h1.ok I.hok
      refine ⟨p, rfl, hd, dd.typeIs, noD dd, .inl ⟨k', vs, kV_is (P := X.prog) (w := X.w) (by rw [← R.kV hy]; exact ru), dd, valV kvs k', rel.val k', ?_⟩⟩
      unfold lookD
      rw [toK_kD]
      dsimp only
      rw [fm_kD]
      rcases h2.look (k := k') with ⟨a, b⟩ | ⟨v, d, a, b, r⟩
      · rw [a, b]
        trivial
      · rw [a, b]
        exact r
    · unfold kindOk at g2
      rw [e1] at g2
      have e0 := all_kD es g2
      subst e0
      cases h2
      obtain ⟨dd, hd⟩ := empty_dN I h1
      have hy' := hy
      cases hy with
      | tup t1 t2 =>
        obtain rfl : u = Value.ref _ := ru
        refine ⟨p, rfl, hd, dd.typeIs, noN dd, .inr ⟨_, _, _, rfl, ⟨nk_is I _ _ _ _ hy' e2 rfl, e3⟩, dd, none, trivial, ?_⟩⟩
        unfold lookD
        rw [e1]
        dsimp only
        rw [e2]
        trivial
  · rcases keyOk_cases g1 with ⟨k', e1, rfl⟩ | ⟨ks, ds, e1, e2, rfl, e3⟩
    · unfold kindOk at g2
      rw [toK_kD] at g2
      have e0 := all_nkD _ h2.ent g2
      subst e0
      have e4 := h2.ent
      cases e4
      obtain ⟨dd, hd⟩ := empty_dK I h1
      refine ⟨p, rfl, hd, dd.typeIs, noD dd, .inl ⟨k', [], kV_is (P := X.prog) (w := X.w) (by rw [← R.kV hy]; exact ru), dd, none, trivial, ?_⟩⟩
      unfold lookD
      rw [toK_kD]
      trivial
    · obtain ⟨dd, hd⟩ := dn_dict I h1 h2
      have hy' := hy
      cases hy with
      | tup t1 t2 =>
        obtain rfl : u = Value.ref _ := ru
        rcases ent_look (k := .tup ks) h2.ent with ⟨a, b⟩ | ⟨q, v, d, a, b, r1, r2⟩
        · refine ⟨p, rfl, hd, dd.typeIs, noN dd, .inr ⟨_, _, _, rfl, ⟨nk_is I _ _ _ _ hy' e2 rfl, e3⟩, dd, none, by rw [a]; trivial, ?_⟩⟩
          unfold lookD
          rw [e1]
          dsimp only
          rw [e2]
          show Found _ _ (lookP _ _) _
          rw [fm_nkD, b]
          trivial
        · refine ⟨p, rfl, hd, dd.typeIs, noN dd, .inr ⟨_, _, _, rfl, ⟨nk_is I _ _ _ _ hy' e2 rfl, e3⟩, dd, some v, by rw [a]; exact r1, ?_⟩⟩
          unfold lookD
          rw [e1]
          dsimp only
          rw [e2]
          show Found _ _ (lookP _ _) _
          rw [fm_nkD, b]
          exact r2
theorem room9 (hu : A.units + 65 < cLine) : (nestedKind X.prog X.w).room A.in1 := by
  show A.units + 1 + 8 < cLine
  omega
theorem found_isSome {C : Program × World} {o : Option PyData} {r : Option V} (h : Found C H o r) : r.isSome = o.isSome := by
  cases o <;> cases r <;> first | rfl | exact h.elim
end
def getD (l : List (PyData × PyData)) (k : PyData) : Option PyData := if dGood l k then lookD l k else none
def hasD (l : List (PyData × PyData)) (k : PyData) : Option Bool := if dGood l k then some (lookD l k).isSome else none
/-- d[k] -/
def mDGet (mo mk : Mi Val) : Mi Val := fun ρ => (fz mo ρ).bind fun a => (fz mk a.2).bind fun b => (a.1.res b.2).bind fun d => match d, b.1 with
  | .dict l, .d k => (getD l k).map fun x => (.d x, b.2)
  | _, _ => none
/-- k in d -/
def mDIn (neg : Bool) (mk mo : Mi Val) : Mi Val := fun ρ => (fz mk ρ).bind fun b => (fz mo b.2).bind fun a => (a.1.res a.2).bind fun d => match d, b.1 with
  | .dict l, .d k => (hasD l k).map fun x => (.d (.bool (if neg then !x else x)), a.2)
  | _, _ => none
/-- d.get(k, x) -/
def mDGet2 (mo mk mx : Mi Val) : Mi Val := fun ρ => (fz mo ρ).bind fun a => (fz mk a.2).bind fun b => (fz mx b.2).bind fun c => (a.1.res c.2).bind fun d => match d, b.1, c.1 with
  | .dict l, .d k, .d x => (hasD l k).map fun _ => (.d ((lookD l k).getD x), c.2)
  | _, _, _ => none
section
variable {X : Cx} {C : Program × World} {o i e f : Expr} {mo mi mx : Mi Val} {pos apos cpos : Pos}
theorem gx_dget (hu : X.A.units + 65 < cLine) (ho : PE X o (tX C mo)) (hi : PE X i (tX C mi)) (hs : NoSl i) (hC : (X.prog, X.w) = C := by rfl) : PE X (.Subscript o i pos) (tX C (mDGet mo mi)) := by
  subst hC
  refine ⟨fun pins s σ H Q I ⟨B, H0, ρ, v, ρ', sr, em, q⟩ => ?_⟩
  obtain ⟨⟨a, ρ1⟩, h1, em⟩ := Option.bind_eq_some_iff.mp em
  obtain ⟨⟨b, ρ2⟩, h2, em⟩ := Option.bind_eq_some_iff.mp em
  obtain ⟨d, h3, em⟩ := Option.bind_eq_some_iff.mp em
  cases d with
  | dict l => cases b with
    | b j => cases em
    | d k =>
    obtain ⟨x, h4, em⟩ := Option.map_eq_some_iff.mp em
    cases em
    unfold getD at h4
    split at h4
    · next g =>
      refine subD_of PySem.F.slot_dict_getitem.lookup hs (thn ((pe_fz ho).run pins s σ H (fun v H' => SR (X.prog, X.w) B H0 σ H' ρ1 ∧ AvOk (X.prog, X.w) σ H' v a ∧ Fm H H') I ⟨B, H0, ρ, _, _, sr, h1, fun v H' s' a' f' => ⟨s', a', f'⟩⟩) fun u s1 ⟨xv, H1, I1, rx, s1', a1', f1'⟩ => thn ((pe_fz hi).run pins s1 σ H1 (fun v H' => SR (X.prog, X.w) B H0 σ H' ρ2 ∧ R (X.prog, X.w) H' v k ∧ Fm H1 H') I1 ⟨B, H0, ρ1, _, _, s1', h2, fun v H' s' a' f' => ⟨s', a', f'⟩⟩) fun iv s2 ⟨yv, H2, I2, ry, s2', r2', f2'⟩ => ?_)
      obtain ⟨p, rfl, hd, ht, _, hh⟩ := d_cases I2 (res_rv s2' (a1'.mono f2') h3) r2' ry g
      obtain rfl : u = Value.ref p := rx
      refine ⟨ht, ?_⟩
      rcases hh with ⟨k', vs, hk, dd, r, hr, hf⟩ | ⟨nk, b, xs, rfl, hk, dd, r, hr, hf⟩
      · rw [h4] at hf
        cases r with
        | none => exact hf.elim
        | some v =>
          obtain ⟨w', hw, rw'⟩ := RelO.some_of (v := v) (o := valueAt vs k') hr
          exact wpAny_getItem_of hk dd.mapOf hw ⟨v, H2, I2.tok _, rw', q v H2 s2' hf (f1'.trans f2')⟩
      · rw [h4] at hf
        cases r with
        | none => exact hf.elim
        | some v =>
          obtain ⟨w', hw, rw'⟩ := RelO.some_of (v := v) hr
          obtain ⟨q1, hq1, rfl⟩ := Option.map_eq_some_iff.mp hw
          exact wpAny_getItem_heap (room9 hu) hk dd hq1 ⟨v, H2, I2.tok _, rw', q v H2 s2' hf (f1'.trans f2')⟩
    · cases h4
  | _ => cases em
theorem gc_din (hu : X.A.units + 65 < cLine) (hi : PE X i (tX C mi)) (ho : PE X o (tX C mo)) (hC : (X.prog, X.w) = C := by rfl) : PC X .In i o (tX C (mDIn false mi mo)) := by
  subst hC
  refine ⟨fun pins s σ H Q I ⟨B, H0, ρ, v, ρ', sr, em, q⟩ => ?_⟩
  obtain ⟨⟨b, ρ1⟩, h1, em⟩ := Option.bind_eq_some_iff.mp em
  obtain ⟨⟨a, ρ2⟩, h2, em⟩ := Option.bind_eq_some_iff.mp em
  obtain ⟨d, h3, em⟩ := Option.bind_eq_some_iff.mp em
  cases d with
  | dict l => cases b with
    | b j => cases em
    | d k =>
    obtain ⟨x, h4, em⟩ := Option.map_eq_some_iff.mp em
    cases em
    unfold hasD at h4
    split at h4
    · next g =>
      cases h4
      refine thn ((pe_fz hi).run pins s σ H (fun v H' => SR (X.prog, X.w) B H0 σ H' ρ1 ∧ R (X.prog, X.w) H' v k ∧ Fm H H') I ⟨B, H0, ρ, _, _, sr, h1, fun v H' s' a' f' => ⟨s', a', f'⟩⟩) fun iv s1 ⟨yv, H1, I1, ry, s1', a1', f1'⟩ => thn ((pe_fz ho).run pins s1 σ H1 (fun v H' => SR (X.prog, X.w) B H0 σ H' ρ2 ∧ AvOk (X.prog, X.w) σ H' v a ∧ Fm H1 H') I1 ⟨B, H0, ρ1, _, _, s1', h2, fun v H' s' a' f' => ⟨s', a', f'⟩⟩) fun u s2 ⟨xv, H2, I2, rx, s2', r2', f2'⟩ => ?_
      obtain ⟨p, rfl, hd, ht, _, hh⟩ := d_cases I2 (res_rv s2' r2' h3) (R.mono f2' a1') ry g
      obtain rfl : u = Value.ref p := rx
      have fin : ∀ {s3 : Shared}, Inv X pins σ H2 s3 → EP X pins σ Q (.bool (lookD l k).isSome) s3 := fun {s3} I3 => ⟨.bl _, H2, I3, rfl, q _ H2 s2' (.bl _) (f1'.trans f2')⟩
      rcases hh with ⟨k', vs, hk, dd, r, hr, hf⟩ | ⟨nk, b, xs, rfl, hk, dd, r, hr, hf⟩
      · refine wpAny_in_of hk hd dd.mapOf ?_
        rw [← RelO.isSome_eq hr, found_isSome hf]
        exact fin (I2.tok _)
      · refine wpAny_in_heap (room9 hu) hk hd dd ?_
        have := RelO.isSome_eq hr
        rw [Option.isSome_map] at this
        rw [← this, found_isSome hf]
        exact fin (I2.tok _)
    · cases h4
  | _ => cases em
theorem gc_dnotin (hu : X.A.units + 65 < cLine) (hi : PE X i (tX C mi)) (ho : PE X o (tX C mo)) (hC : (X.prog, X.w) = C := by rfl) : PC X .NotIn i o (tX C (mDIn true mi mo)) := by
  subst hC
  refine ⟨fun pins s σ H Q I ⟨B, H0, ρ, v, ρ', sr, em, q⟩ => ?_⟩
  obtain ⟨⟨b, ρ1⟩, h1, em⟩ := Option.bind_eq_some_iff.mp em
  obtain ⟨⟨a, ρ2⟩, h2, em⟩ := Option.bind_eq_some_iff.mp em
  obtain ⟨d, h3, em⟩ := Option.bind_eq_some_iff.mp em
  cases d with
  | dict l => cases b with
    | b j => cases em
    | d k =>
    obtain ⟨x, h4, em⟩ := Option.map_eq_some_iff.mp em
    cases em
    unfold hasD at h4
    split at h4
    · next g =>
      cases h4
      refine thn ((pe_fz hi).run pins s σ H (fun v H' => SR (X.prog, X.w) B H0 σ H' ρ1 ∧ R (X.prog, X.w) H' v k ∧ Fm H H') I ⟨B, H0, ρ, _, _, sr, h1, fun v H' s' a' f' => ⟨s', a', f'⟩⟩) fun iv s1 ⟨yv, H1, I1, ry, s1', a1', f1'⟩ => thn ((pe_fz ho).run pins s1 σ H1 (fun v H' => SR (X.prog, X.w) B H0 σ H' ρ2 ∧ AvOk (X.prog, X.w) σ H' v a ∧ Fm H1 H') I1 ⟨B, H0, ρ1, _, _, s1', h2, fun v H' s' a' f' => ⟨s', a', f'⟩⟩) fun u s2 ⟨xv, H2, I2, rx, s2', r2', f2'⟩ => ?_
      obtain ⟨p, rfl, hd, ht, _, hh⟩ := d_cases I2 (res_rv s2' r2' h3) (R.mono f2' a1') ry g
      obtain rfl : u = Value.ref p := rx
      have fin : ∀ {s3 : Shared}, Inv X pins σ H2 s3 → EP X pins σ Q (.bool (!(lookD l k).isSome)) s3 := fun {s3} I3 => ⟨.bl _, H2, I3, rfl, q _ H2 s2' (.bl _) (f1'.trans f2')⟩
      rcases hh with ⟨k', vs, hk, dd, r, hr, hf⟩ | ⟨nk, b, xs, rfl, hk, dd, r, hr, hf⟩
      · refine wpAny_notIn_of hk hd dd.mapOf ?_
        rw [← RelO.isSome_eq hr, found_isSome hf]
        exact fin (I2.tok _)
      · refine wpAny_notIn_heap (room9 hu) hk hd dd ?_
        have := RelO.isSome_eq hr
        rw [Option.isSome_map] at this
        rw [← this, found_isSome hf]
        exact fin (I2.tok _)
    · cases h4
  | _ => cases em
theorem gx_pc {op : CmpOp} {a b : Expr} {m : Mi Val} (h : PC X op a b (tX C m)) (h1 : behindInMarks op b = false := by first | exact nobehind _ (by decide) (by decide) | rfl) : PE X (.Compare a [op] [b] pos) (tX C m) := pe_cmp h h1
theorem gt_pc {op : CmpOp} {a b : Expr} {m : Mi Val} (h : PC X op a b (tX C m)) (h1 : behindInMarks op b = false := by first | exact nobehind _ (by decide) (by decide) | rfl) : PT X (.Compare a [op] [b] pos) (tXT C (mtst m)) := pt_wk (pt_cmp h h1) fun σ H Q z => tst_of z
end
end G
/-! what changes a slot's object; methods -/
namespace G
open PySem PyProof.Rows L2 HD
theorem R.tup_inv {C : Program × World} {H : Hp} {v : V} {ds : List PyData} (h : R C H v (.tuple ds)) : ∃ a xs, v = .ref a ∧ FT H a xs ∧ RA C H xs ds := by
  cases h with
  | tup a b => exact ⟨_, _, rfl, a, b⟩
def setOb (ρ : Env) (i : Nat) (o : Ob) : Env := match ρ[i]? with
  | some s => ρ.set i (s.put o)
  | none => ρ
def LIM : Nat := 100000
theorem lim_line {n : Nat} (h : n < LIM) : n < sizeLine := Nat.lt_trans h (by decide)
section
variable {X : Cx} {pins : List (Addr × Obj)} {σ : L2.St} {H : Hp} {s : Shared} {C : Program × World} {B : List (Addr × List Addr)} {H0 : Hp} {ρ : Env}
/-- where the object of a slot is -/
theorem SR.at (sr : SR C B H0 σ H ρ) {i : Nat} {o : Ob} (h : slotOb ρ i = some o) : ∃ t p, ρ[i]? = some t ∧ (t = .own o ∨ ∃ k, t = .par k o) ∧ σ[i]? = some (some (.ref p)) ∧ ∃ F, Rep C H p F o := by
  unfold slotOb at h
  obtain ⟨t, h1, h2⟩ := Option.bind_eq_some_iff.mp h
  obtain ⟨v, hv⟩ := sr.get h1
  obtain ⟨F, hF, _⟩ := sr.rep
  have ok := hF i t v h1 hv
  cases t with
  | non => cases h2
  | dat d => cases h2
  | own o' =>
    cases h2
    obtain ⟨p, rfl, r, _⟩ := ok
    exact ⟨_, p, h1, .inl rfl, hv, _, r⟩
  | par k o' =>
    cases h2
    obtain ⟨p, rfl, r, _⟩ := ok
    exact ⟨_, p, h1, .inr ⟨k, rfl⟩, hv, _, r⟩
theorem Fm.but {H' : Hp} {F : List Addr} {p : Addr} {o : Ob} (h : Rep C H p F o) (k : ∀ a, a ∉ F → H' a = H a) : Fm H H' := fun a od u e => by
  rw [k a fun m => ?_]
  · exact e
  · obtain ⟨v, e2, nf⟩ := h.nf a m
    rw [e] at e2
    cases e2
    exact nf.elim
/-- what is wanted behind a change of the object at p -/
def ChK (C : Program × World) (H : Hp) (p : Addr) (o o' : Ob) (Q : Hp → Prop) : Prop := ∀ H', (∀ F, Rep C H p F o → (∀ a, a ∉ F → H' a = H a) ∧ Rep C H' p F o') → Q H'
theorem chK_of {i : Nat} {o o' : Ob} {t : Sl} {p : Addr} (sr : SR C B H0 σ H ρ) (ht : ρ[i]? = some t) (hk : t = .own o ∨ ∃ k, t = .par k o) (hp : σ[i]? = some (some (.ref p))) (hr : ∃ F, Rep C H p F o) {Q : Hp → Prop} (q : ∀ H', SR C B H0 σ H' (setOb ρ i o') → Fm H H' → Q H') : ChK C H p o o' Q := fun H' h => by
  obtain ⟨F, hF⟩ := hr
  refine q H' ?_ (Fm.but hF (h F hF).1)
  unfold setOb
  rw [ht]
  exact sr.write ht hk hp h
/-! o[k] = v -/
def putOb : Ob → PyData → PyData → Option Ob
  | .lst ds, .int j, d => (ixN ds.length j).map fun n => .lst (ds.set n d)
  | .dK es, k, d => (toK k).bind fun k' => if es.length < LIM then some (.dK (putP es k' d)) else none
  | .dN es, k, d => match toNK k with
    | some (.tup ks) => if (NestedKey.tup ks).depth ≤ 8 ∧ es.length < LIM then some (.dN (putP es (.tup ks) d)) else none
    | _ => none
  | _, _, _ => none
theorem storedH_keys {xs : List (NestedKey × Addr × Value)} {k : NestedKey} {b : Addr} {v : Value} (hk : k.depth ≤ 8) (h : ∀ x ∈ xs, x.1.depth ≤ 8) : ∀ x ∈ storedH xs k b v, x.1.depth ≤ 8 := by
  intro x hx
  rcases HT.stored_keys (xs := xs) (k := k) (b := b) (v := v) with ⟨_, _, k3⟩ | ⟨_, k2⟩
  · obtain ⟨y, hy, e1, _⟩ := k3 x hx
    rw [← e1]
    exact h y hy
  · rw [k2] at hx
    rcases List.mem_append.mp hx with z | z
    · exact h x z
    · rw [List.mem_singleton.mp z]
      exact hk
theorem setItem_ob {p : Addr} {o o' : Ob} {y v : V} {k d : PyData} {iv r : Value} {Q : Unit → Shared → Prop} (hu : X.A.units + 65 < cLine) (I : Inv X pins σ H s) (hr : ∃ F, Rep (X.prog, X.w) H p F o) (rk : R (X.prog, X.w) H y k) (ru : RelV y iv) (rd : R (X.prog, X.w) H v d) (rv : RelV v r) (e : putOb o k d = some o')
    (h : ChK (X.prog, X.w) H p o o' fun H' => ∀ s', Inv X pins σ H' s' → Q () s') : wpAny (model X.prog X.w) X.A (setItem (.ref p) iv r) Q X.xe s := by
  obtain ⟨F0, hF0⟩ := hr
  cases o with
  | lst ds =>
    cases k with
    | int j =>
      obtain ⟨n, e1, rfl⟩ := Option.map_eq_some_iff.mp (show (ixN ds.length j).map (fun n => Ob.lst (ds.set n d)) = some o' from e)
      cases rk
      obtain ⟨rfl, vs, h1, h2⟩ := hF0
      refine thn (set_list pins s σ H (.ref p) (.int j) v (.ref p) iv r (fun H' => H' = upd H p (.lst (vs.set n v))) I rfl ru rv ⟨p, vs, j, n, rfl, rfl, h1, by rw [h2.length]; exact e1, rfl⟩) fun _ s' ⟨H', I', eH⟩ => ?_
      subst eH
      refine h _ (fun F hF => ?_) s' I'
      obtain ⟨rfl, vs', h3, h4⟩ := hF
      have fm : Fm H (upd H p (.lst (vs.set n v))) := Fm.but (C := (X.prog, X.w)) (F := [p]) (o := .lst ds) ⟨rfl, vs', h3, h4⟩ fun a ha => upd_ne fun z => ha (by rw [z]; simp)
      refine ⟨fun a ha => upd_ne fun z => ha (by rw [z]; simp), rfl, _, upd_same, ?_⟩
      exact (h2.set n rd).mono fm
    | _ => cases e
  | dK es =>
    obtain ⟨k', e1, e2⟩ := Option.bind_eq_some_iff.mp (show (toK k).bind (fun k' => if es.length < LIM then some (Ob.dK (putP es k' d)) else none) = some o' from e)
    split at e2
    · next hl =>
      cases e2
      rw [kD_toK e1] at rk
      rw [R.kV rk] at ru
      obtain ⟨rfl, kvs, h1, h2⟩ := hF0
      have hl' : kvs.length < sizeLine := by rw [h2.length]; exact lim_line hl
      refine d_setItem (by omega) I (DPut.k (k := k') h1 hl') ru rv fun s' I' => ?_
      refine h _ (fun F hF => ?_) s' I'
      obtain ⟨rfl, vs', h3, h4⟩ := hF
      have fm : Fm H (upd H p (.dK (putK kvs k' v))) := Fm.but (C := (X.prog, X.w)) (F := [p]) (o := .dK es) ⟨rfl, vs', h3, h4⟩ fun a ha => upd_ne fun z => ha (by rw [z]; simp)
      exact ⟨fun a ha => upd_ne fun z => ha (by rw [z]; simp), rfl, _, upd_same, (h2.put rd).mono fm⟩
    · cases e2
  | dN es =>
    have e : (match toNK k with
      | some (.tup ks) => if (NestedKey.tup ks).depth ≤ 8 ∧ es.length < LIM then some (Ob.dN (putP es (.tup ks) d)) else none
      | _ => none) = some o' := e
    split at e
    · next ks e1 =>
      split at e
      · next hl =>
        cases e
        obtain ⟨rfl, xs, h1, h2⟩ := hF0
        obtain ⟨dd, hd⟩ := dn_dict I (.inl h1) h2
        have ek := nkD_toNK _ _ e1
        subst ek
        have rk' := rk
        · obtain ⟨b0, ws, rfl, t1, t2⟩ := R.tup_inv (show R (X.prog, X.w) H y (.tuple (nkDs ks)) by rw [nkD] at rk; exact rk)
          obtain rfl : iv = Value.ref b0 := ru
          have hlen : xs.length ≤ sizeLine := by rw [Paired.length h2.ent]; exact Nat.le_of_lt (lim_line hl.2)
          refine wpAny_setItem_heap (hsz := hlen) (room9 hu) (k := .tup ks) ⟨nk_is I _ _ _ _ rk' e1 rfl, hl.1⟩ dd fun h' dd' hs' => ?_
          obtain ⟨ob, es', ep, a1, a2, a3, a4, a5, a6⟩ := dd'
          have J : Inv X pins σ (upd H p (HT.tiedO X.prog X.w p (storedH xs (.tup ks) b0 r))) { s with heap := h', toks := s.toks + (nestedKind X.prog X.w).draws (.tup ks) } :=
            d_write I (by rw [h1]; exact True.intro) hs' ⟨ob, a1⟩ ⟨⟨ob, es', ep, a1, a2, a3, a4, hd⟩, ⟨ob, a1⟩, fun g1 g2 ⟨o', es'', ep', c1, c2⟩ k => ⟨o', es'', ep', k _ c1, c2⟩⟩
          refine h _ (fun F hF => ?_) _ J
          obtain ⟨rfl, vs', h3, h4⟩ := hF
          have fm : Fm H (upd H p (HT.tiedO X.prog X.w p (storedH xs (.tup ks) b0 r))) := Fm.but (C := (X.prog, X.w)) (F := [p]) (o := .dN es) ⟨rfl, vs', h3, h4⟩ fun a ha => upd_ne fun z => ha (by rw [z]; simp)
          refine ⟨fun a ha => upd_ne fun z => ha (by rw [z]; simp), rfl, _, upd_same, DN.mono (H := H) ⟨⟨a6, storedH_keys hl.1 h2.nd.2⟩, ent_put h2.ent rk' rv rd⟩ fm⟩
      · cases e
    · cases e
  | pool a b c => cases e
/-- name[k] = v -/
def mPut (i : Nat) (mk mv : Mi Val) : Ms := fun ρ => (fz mv ρ).bind fun a => (slotOb a.2 i).bind fun _ => (fz mk a.2).bind fun b => match a.1, b.1 with
  | .d d, .d k => (slotOb b.2 i).bind fun o => (putOb o k d).map fun o' => .nx (setOb b.2 i o')
  | _, _ => none
end
section
variable {X : Cx} {C : Program × World} {o i e f value : Expr} {mk mv : Mi Val} {pos pos' : Pos}
theorem gs_put {n : Nat} {x : Str} {p0 : Pos} (hu : X.A.units + 65 < cLine) (hN : X.N[n]? = some x) (hv0 : Vis X.env.scope x) (hi : PE X i (tX C mk)) (hv : PE X value (tX C mv)) (hs : swapsWith value (some (.Subscript (.Name x p0) i pos')) pos.line X.env = pure false) (hC : (X.prog, X.w) = C := by rfl)
    (hd : (x == ("__debug__" : Str)) = false := by decide) (hcd : (x == ("__classdict__" : Str)) = false := by decide) :
    PS X (.Assign [.Subscript (.Name x p0) i pos'] value pos) (tS C (mPut n mk mv)) := by
  subst hC
  refine ⟨fun pins s σ H D I ⟨B, H0, ρ, o, sr, em, q⟩ => ?_⟩
  obtain ⟨⟨a, ρ1⟩, h1, em⟩ := Option.bind_eq_some_iff.mp em
  obtain ⟨ob0, h0, em⟩ := Option.bind_eq_some_iff.mp em
  obtain ⟨⟨b, ρ2⟩, h2, em⟩ := Option.bind_eq_some_iff.mp em
  cases a with
  | b j => cases em
  | d d => cases b with
    | b j => cases em
    | d k =>
      obtain ⟨ob, h3, em⟩ := Option.bind_eq_some_iff.mp em
      obtain ⟨ob', h4, em⟩ := Option.map_eq_some_iff.mp em
      cases em
      refine wpAny_Assign_Subscript (thn ((pe_fz hv).run pins s σ H (fun v H' => SR (X.prog, X.w) B H0 σ H' ρ1 ∧ R (X.prog, X.w) H' v d ∧ Fm H H') I ⟨B, H0, ρ, _, _, sr, h1, fun v H' s' a' f' => ⟨s', a', f'⟩⟩) fun r s1 ⟨v1, H1, I1, rv, s1', r1', f1'⟩ => ?_) hs
      obtain ⟨_, p, _, _, hp, _⟩ := s1'.at h0
      refine thn ((pe_var hN hv0 hd hcd).run pins s1 σ H1 (fun v H' => v = .ref p ∧ SR (X.prog, X.w) B H0 σ H' ρ1 ∧ R (X.prog, X.w) H' v1 d ∧ Fm H H') I1 ⟨_, hp, rfl, s1', r1', f1'⟩) fun u s2 ⟨v2, H2, I2, r2, e2, s2', r2', f2'⟩ => ?_
      subst e2
      obtain rfl : u = Value.ref p := r2
      refine thn ((pe_fz hi).run pins s2 σ H2 (fun v H' => SR (X.prog, X.w) B H0 σ H' ρ2 ∧ R (X.prog, X.w) H' v k ∧ Fm H2 H') I2 ⟨B, H0, ρ1, _, _, s2', h2, fun v H' s' a' f' => ⟨s', a', f'⟩⟩) fun iv s3 ⟨v3, H3, I3, rk, s3', r3', f3'⟩ => ?_
      obtain ⟨t, p', ht, hk, hp', hr⟩ := s3'.at h3
      rw [hp] at hp'
      cases hp'
      exact setItem_ob hu I3 hr r3' rk (r2'.mono f3') rv h4 (chK_of s3' ht hk hp hr fun H4 s4 f4 s' I4 => ⟨σ, H4, I4, q σ H4 s4 (f2'.trans (f3'.trans f4))⟩)
end
def chk (p : Prop) [Decidable p] : Option Unit := if p then some () else none
theorem chk_some {p : Prop} [Decidable p] {u : Unit} (h : chk p = some u) : p := by
  unfold chk at h
  split at h
  · assumption
  · cases h
/-! methods of a slot's object -/
def Ob.ty : Ob → String
  | .lst _ => "list"
  | .pool _ _ _ => "list"
  | .dK _ => "dict"
  | .dN _ => "dict"
section
variable {X : Cx} {pins : List (Addr × Obj)} {σ : L2.St} {H : Hp} {s : Shared}
theorem ob_type (I : Inv X pins σ H s) {p : Addr} {F : List Addr} {o : Ob} (h : Rep (X.prog, X.w) H p F o) : s.TypeIs (.ref p) o.ty ∧ ∀ a, Value.ref p = .ref a → ∃ ob, s.heap.get? a = some ob ∧ ob.dict = none := by
  have lst : ∀ {vs : List V}, H p = some (.lst vs) → s.TypeIs (.ref p) "list" ∧ ∀ a, Value.ref p = .ref a → ∃ ob, s.heap.get? a = some ob ∧ ob.dict = none := fun {vs} e => by
    obtain ⟨its, _, pl, _⟩ := I.list (SqL.of e)
    refine ⟨pl.isList.typeIs, fun a e => ?_⟩
    cases e
    obtain ⟨o, n, e, c, hd, _⟩ := pl
    exact ⟨o, e, hd⟩
  cases o with
  | lst ds =>
    obtain ⟨_, vs, h1, _⟩ := h
    exact lst h1
  | pool a b c =>
    obtain ⟨_, _, _, _, _, _, h1, _⟩ := h
    exact lst h1
  | dK es =>
    obtain ⟨_, kvs, h1, _⟩ := h
    obtain ⟨_, _, _, _, o, _, _, e, ex, _⟩ := I.hok p _ h1
    exact ⟨⟨o, e, ex.1⟩, fun a e2 => by cases e2; exact ⟨o, e, ex.2.1⟩⟩
  | dN es =>
    obtain ⟨_, xs, h1, _⟩ := h
    obtain ⟨o, es', ep, e, ex, _⟩ := rd_ext I (.inl h1)
    exact ⟨⟨o, e, ex.1⟩, fun a e2 => by cases e2; exact ⟨o, e, ex.2.1⟩⟩
/-- what a method does to an object -/
def MSpec (X : Cx) (id : String) (f : Ob → List PyData → Option (Ob × PyData)) : Prop := ∀ (pins : List (Addr × Obj)) (s : Shared) (σ : L2.St) (H : Hp) (p : Addr) (o o' : Ob) (ds : List PyData) (d : PyData) (vs : List V) (us : List Value) (Q : VK),
  Inv X pins σ H s → (∃ F, Rep (X.prog, X.w) H p F o) → RA (X.prog, X.w) H vs ds → Vals vs us → f o ds = some (o', d) → ChK (X.prog, X.w) H p o o' (fun H' => ∀ v, R (X.prog, X.w) H' v d → Q v H') →
  wpAny (model X.prog X.w) X.A (call (.builtin id) (.ref p :: us)) (EP X pins σ Q) X.xe s
def mMeth (T : String) (f : Ob → List PyData → Option (Ob × PyData)) (i : Nat) (ms : List (Mi Val)) : Mi Val := fun ρ => (slotOb ρ i).bind fun o0 => (chk (o0.ty = T)).bind fun _ => (mArgs ms ρ).bind fun r => (datAll r.1).bind fun ds => (slotOb r.2 i).bind fun o => (f o ds).map fun q => (.d q.2, setOb r.2 i q.1)
end
section
variable {X : Cx} {C : Program × World} {e : Expr} {es : List Expr} {ms : List (Mi Val)} {n : Nat} {x : Str} {p0 apos cpos : Pos} {T id : String} {name : Str} {f : Ob → List PyData → Option (Ob × PyData)}
theorem gx_meth (pa : PlainAttrs T) (slot : Slot T name id) (hty : typeOf (.builtin id) = pure (.type "method_descriptor")) (hm : MSpec X id f) (hN : X.N[n]? = some x) (hv0 : Vis X.env.scope x) (ha : PA X (e :: es) (tAs C (mArgs ms))) (hC : (X.prog, X.w) = C := by rfl)
    (hbase : attributeBase (.Name x p0) name X.env (eval (.Name x p0) X.env) = eval (.Name x p0) X.env := by rfl)
    (hfew : ((backTo cpos (starEach (e :: es) X.env)).all (fun x => !x.1) && (backToKw cpos (keywordEach [] X.env)).all (fun x => x.1.isSome)
      && decide ((e :: es).length + ([] : List Keyword).length + (if ([] : List Keyword).isEmpty then 0 else 1) < 30)) = true := by rfl)
    (hline : (apos.endLine == cpos.line) = true := by rfl) (hs : starEach (e :: es) X.env = (false, eval e X.env) :: starEach es X.env := by rfl) (hplain : (backTo cpos (starEach es X.env)).any (·.1) = false := by rfl)
    (hd : (x == ("__debug__" : Str)) = false := by decide) (hcd : (x == ("__classdict__" : Str)) = false := by decide) :
    PE X (.Call (.Attribute (.Name x p0) name apos) (e :: es) [] cpos) (tX C (mMeth T f n ms)) := by
  subst hC
  refine ⟨fun pins s σ H Q I ⟨B, H0, ρ, v, ρ', sr, em, q⟩ => ?_⟩
  obtain ⟨o0, h0, em⟩ := Option.bind_eq_some_iff.mp em
  obtain ⟨_, hT, em⟩ := Option.bind_eq_some_iff.mp em
  have hT := chk_some hT
  · skip
    obtain ⟨⟨as, ρ1⟩, h1, em⟩ := Option.bind_eq_some_iff.mp em
    obtain ⟨ds, h2, em⟩ := Option.bind_eq_some_iff.mp em
    obtain ⟨o, h3, em⟩ := Option.bind_eq_some_iff.mp em
    obtain ⟨⟨o', d⟩, h4, em⟩ := Option.map_eq_some_iff.mp em
    cases em
    obtain ⟨_, p, _, _, hp, _⟩ := sr.at h0
    refine wpAny_Call_method_late hbase hfew hline rfl (thn ((pe_var hN hv0 hd hcd).run pins s σ H (fun v H' => v = .ref p ∧ SR (X.prog, X.w) B H0 σ H' ρ ∧ Fm H H') I ⟨_, hp, rfl, sr, Fm.refl H⟩) fun v s1 ⟨v1, H1, I1, r1, e1, s1', f1'⟩ => ?_)
    subst e1
    obtain rfl : v = Value.ref p := r1
    obtain ⟨_, p', _, _, hp', ⟨F0, hF0⟩⟩ := s1'.at h0
    rw [hp] at hp'
    cases hp'
    obtain ⟨t1, t2⟩ := ob_type I1 hF0
    rw [hT] at t1
    refine ⟨_, id, pa, slot, hty, t1, t2, ?_⟩
    have hA := ha.run cpos pins s1 σ H1 (fun vs H' => SR (X.prog, X.w) B H0 σ H' ρ1 ∧ RA (X.prog, X.w) H' vs ds ∧ Fm H1 H') I1 ⟨B, H0, ρ, as, ρ1, s1', h1, fun vs H' s' a' f' => ⟨s', datAll_ra a' h2, f'⟩⟩
    rw [hs] at hA ⊢
    refine Calls.callWith_builtin (by show (false || (backTo cpos (starEach es X.env)).any (·.1)) = false; rw [hplain] <;> rfl) (Calls.evalArgs_plain ?_)
    refine thn hA fun us s2 ⟨vs, H2, I2, r2, s2', ra, f2'⟩ => ?_
    obtain ⟨t, p', ht, hk, hp', hr⟩ := s2'.at h3
    rw [hp] at hp'
    cases hp'
    exact hm pins s2 σ H2 p o o' ds d vs us Q I2 hr ra r2 h4 (chK_of s2' ht hk hp hr fun H3 s3 f3 v r => q v H3 s3 r (f1'.trans (f2'.trans f3)))
theorem gx_meth0 (pa : PlainAttrs T) (slot : Slot T name id) (hty : typeOf (.builtin id) = pure (.type "method_descriptor")) (hm : MSpec X id f) (hN : X.N[n]? = some x) (hv0 : Vis X.env.scope x) (hC : (X.prog, X.w) = C := by rfl)
    (hbase : attributeBase (.Name x p0) name X.env (eval (.Name x p0) X.env) = eval (.Name x p0) X.env := by rfl) (hline : (apos.endLine == cpos.line) = true := by rfl)
    (hd : (x == ("__debug__" : Str)) = false := by decide) (hcd : (x == ("__classdict__" : Str)) = false := by decide) :
    PE X (.Call (.Attribute (.Name x p0) name apos) [] [] cpos) (tX C (mMeth T f n [])) := by
  subst hC
  refine ⟨fun pins s σ H Q I ⟨B, H0, ρ, v, ρ', sr, em, q⟩ => ?_⟩
  obtain ⟨o0, h0, em⟩ := Option.bind_eq_some_iff.mp em
  obtain ⟨_, hT, em⟩ := Option.bind_eq_some_iff.mp em
  have hT := chk_some hT
  · skip
    obtain ⟨⟨as, ρ1⟩, h1, em⟩ := Option.bind_eq_some_iff.mp em
    cases h1
    obtain ⟨ds, h2, em⟩ := Option.bind_eq_some_iff.mp em
    cases h2
    obtain ⟨o, h3, em⟩ := Option.bind_eq_some_iff.mp em
    obtain ⟨⟨o', d⟩, h4, em⟩ := Option.map_eq_some_iff.mp em
    cases em
    obtain ⟨_, p, _, _, hp, _⟩ := sr.at h0
    refine wpAny_Call_method0_late hbase hline (thn ((pe_var hN hv0 hd hcd).run pins s σ H (fun v H' => v = .ref p ∧ SR (X.prog, X.w) B H0 σ H' ρ ∧ Fm H H') I ⟨_, hp, rfl, sr, Fm.refl H⟩) fun v s1 ⟨v1, H1, I1, r1, e1, s1', f1'⟩ => ?_)
    subst e1
    obtain rfl : v = Value.ref p := r1
    obtain ⟨t, p', ht, hk, hp', hr⟩ := s1'.at h3
    rw [hp] at hp'
    cases hp'
    obtain ⟨_, p', _, _, hp', ⟨F0, hF0⟩⟩ := s1'.at h0
    rw [hp] at hp'
    cases hp'
    obtain ⟨t1, t2⟩ := ob_type I1 hF0
    rw [hT] at t1
    exact ⟨_, id, pa, slot, hty, t1, t2, Calls.callWith_builtin rfl (PySem.evalArgs_none (hm pins s1 σ H1 p o o' [] d [] [] Q I1 hr .nil .nil h4 (chK_of s1' ht hk hp hr fun H3 s3 f3 v r => q v H3 s3 r (f1'.trans f3))))⟩
end
/-! the methods -/
def obAppend : Ob → List PyData → Option (Ob × PyData)
  | .lst ds, [d] => if ds.length < LIM then some (.lst (ds ++ [d]), .none) else none
  | _, _ => none
def obPop : Ob → List PyData → Option (Ob × PyData)
  | .lst ds, [] => (ds[ds.length - 1]?).map fun d => (.lst ds.dropLast, d)
  | .lst ds, [.int i] => if -(2 ^ 63) ≤ i ∧ i < 2 ^ 63 then (seqIndex? i ds.length).bind fun k => (ds[k]?).map fun d => (.lst (ds.eraseIdx k), d) else none
  | _, _ => none
def obDPop : Ob → List PyData → Option (Ob × PyData)
  | .dK es, [k] => (toK k).bind fun k' => (lookP es k').map fun d => (.dK (dropP es k'), d)
  | .dN es, [k] => match toNK k with
    | some (.tup ks) => if (NestedKey.tup ks).depth ≤ 8 ∧ es.length < LIM then (lookP es (.tup ks)).map fun d => (.dN (dropP es (.tup ks)), d) else none
    | _ => none
  | _, _ => none
section
variable {X : Cx}
theorem lst_ch {H : Hp} {p : Addr} {C : Program × World} {ds ds' : List PyData} {vs : List V} {Q : Hp → Prop} (h : ∃ F, Rep C H p F (.lst ds)) (r : ∀ H', Fm H H' → RA C H' vs ds') (q : ChK C H p (.lst ds) (.lst ds') Q) : Q (upd H p (.lst vs)) := by
  refine q _ fun F hF => ?_
  obtain ⟨rfl, ws, h3, h4⟩ := hF
  have k : ∀ a, a ∉ [p] → upd H p (.lst vs) a = H a := fun a ha => upd_ne fun z => ha (by rw [z]; simp)
  have fm : Fm H (upd H p (.lst vs)) := Fm.but (C := C) (F := [p]) (o := .lst ds) ⟨rfl, ws, h3, h4⟩ k
  exact ⟨k, rfl, _, upd_same, r _ fm⟩
theorem RA.dropLast {C : Program × World} {H : Hp} {vs : List V} {ds : List PyData} (h : RA C H vs ds) : RA C H vs.dropLast ds.dropLast := by
  rw [List.dropLast_eq_take, List.dropLast_eq_take, h.length]
  exact h.take _
theorem ms_append : MSpec X "list.append" obAppend := fun pins s σ H p o o' ds d vs us Q I hr ra rv e q => by
  cases o with
  | lst xs =>
    cases ra with
    | nil => cases e
    | cons r1 t => cases t with
      | cons _ _ => cases e
      | nil =>
        unfold obAppend at e
        dsimp only at e
        split at e
        · next hl =>
          cases e
          obtain ⟨F, _, ws, h1, h2⟩ := id hr
          exact mt_append pins s σ H (.ref p) _ (.ref p) us Q I rfl rv ⟨p, ws, _, rfl, rfl, h1, by rw [h2.length]; exact lim_line hl, lst_ch hr (fun H' f => (h2.append (.cons r1 .nil)).mono f) q .non .non⟩
        · cases e
  | _ => cases e
theorem ms_pop : MSpec X "list.pop" obPop := fun pins s σ H p o o' ds d vs us Q I hr ra rv e q => by
  cases o with
  | lst xs =>
    obtain ⟨F, _, ws, h1, h2⟩ := id hr
    cases ra with
    | nil =>
      obtain ⟨x, e1, e2⟩ := Option.map_eq_some_iff.mp (show (xs[xs.length - 1]?).map (fun d => (Ob.lst xs.dropLast, d)) = some (o', d) from e)
      cases e2
      obtain ⟨v, e3, r⟩ := h2.get2 e1
      refine mt_pop pins s σ H (.ref p) _ (.ref p) us Q I rfl rv ⟨p, ws, v, rfl, rfl, h1, by rw [h2.length]; exact e3, ?_⟩
      exact lst_ch (ds' := xs.dropLast) (Q := fun H' => Q v H') hr (fun H' f => h2.dropLast.mono f) fun H' z => q H' z v (R.mono (Fm.but (C := (X.prog, X.w)) hr.choose_spec (z _ hr.choose_spec).1) r)
    | cons r1 t => cases t with
      | cons _ _ =>
        exfalso
        unfold obPop at e
        split at e <;> simp_all
      | nil =>
        cases r1 with
        | int i =>
          have e : (if -(2 ^ 63) ≤ i ∧ i < 2 ^ 63 then (seqIndex? i xs.length).bind fun k => (xs[k]?).map fun d => (Ob.lst (xs.eraseIdx k), d) else none) = some (o', d) := e
          split at e
          · next hi =>
            obtain ⟨k, e0, e⟩ := Option.bind_eq_some_iff.mp e
            obtain ⟨x, e1, e2⟩ := Option.map_eq_some_iff.mp e
            cases e2
            obtain ⟨v, e3, r⟩ := h2.get2 e1
            refine mt_popAt pins s σ H (.ref p) _ (.ref p) us Q I rfl rv ⟨p, ws, i, k, v, rfl, rfl, h1, hi.1, hi.2, by rw [h2.length]; exact e0, e3, ?_⟩
            exact lst_ch (ds' := xs.eraseIdx k) (Q := fun H' => Q v H') hr (fun H' f => (h2.eraseIdx k).mono f) fun H' z => q H' z v (R.mono (Fm.but (C := (X.prog, X.w)) hr.choose_spec (z _ hr.choose_spec).1) r)
          · cases e
        | _ => cases e
  | _ => cases e
theorem ms_dpop (hu : X.A.units + 65 < cLine) : MSpec X "dict.pop" obDPop := fun pins s σ H p o o' ds d vs us Q I hr ra rv e q => by
  cases ra with
  | nil => cases o <;> cases e
  | cons r1 t => cases t with
    | cons _ _ => cases o <;> cases e
    | nil =>
      rename_i v0 k
      obtain ⟨u0, rfl, ru⟩ := Vals.one rv
      obtain ⟨F0, hF0⟩ := id hr
      cases o with
      | lst xs => cases e
      | pool a b c => cases e
      | dK es =>
        obtain ⟨k', e1, e⟩ := Option.bind_eq_some_iff.mp (show (toK k).bind (fun k' => (lookP es k').map fun d => (Ob.dK (dropP es k'), d)) = some (o', d) from e)
        obtain ⟨x, e2, e⟩ := Option.map_eq_some_iff.mp e
        cases e
        rw [kD_toK e1] at r1
        rw [R.kV r1] at ru
        obtain ⟨rfl, kvs, h1, h2⟩ := hF0
        rcases h2.look (k := k') with ⟨_, b⟩ | ⟨v, d', a, b, r⟩
        · rw [b] at e2
          cases e2
        · rw [b] at e2
          cases e2
          refine d_pop I h1 ru a (.inl rfl) fun w' s' I' rw' => ⟨v, _, I', rw', ?_⟩
          have k : ∀ a, a ∉ [p] → upd H p (.dK (dropK kvs k')) a = H a := fun a ha => upd_ne fun z => ha (by rw [z]; simp)
          refine q _ (fun F hF => ?_) v (R.mono (Fm.but (C := (X.prog, X.w)) (F := [p]) (o := .dK es) ⟨rfl, kvs, h1, h2⟩ k) r)
          obtain ⟨rfl, ws, h3, h4⟩ := hF
          exact ⟨k, rfl, _, upd_same, h2.drop.mono (Fm.but (C := (X.prog, X.w)) (F := [p]) (o := .dK es) ⟨rfl, kvs, h1, h2⟩ k)⟩
      | dN es =>
        have e : (match toNK k with
          | some (.tup ks) => if (NestedKey.tup ks).depth ≤ 8 ∧ es.length < LIM then (lookP es (.tup ks)).map fun d => (Ob.dN (dropP es (.tup ks)), d) else none
          | _ => none) = some (o', d) := e
        split at e
        · next ks e1 =>
          split at e
          · next hl =>
            obtain ⟨x, e2, e⟩ := Option.map_eq_some_iff.mp e
            cases e
            obtain ⟨rfl, xs, h1, h2⟩ := hF0
            obtain ⟨dd, hd⟩ := dn_dict I (.inl h1) h2
            have ek := nkD_toNK _ _ e1
            subst ek
            obtain ⟨b0, ws, rfl, t1, t2⟩ := R.tup_inv (show R (X.prog, X.w) H v0 (.tuple (nkDs ks)) by rw [nkD] at r1; exact r1)
            obtain rfl : u0 = Value.ref b0 := ru
            have hlen : xs.length ≤ sizeLine := by rw [Paired.length h2.ent]; exact Nat.le_of_lt (lim_line hl.2)
            rcases ent_look (k := .tup ks) h2.ent with ⟨_, b⟩ | ⟨pr, v, d', a, b, rr, r⟩
            · rw [b] at e2
              cases e2
            · rw [b] at e2
              cases e2
              refine call_pop_heap (hsz := hlen) (more := []) (.inl rfl) (PySem.F.args_dict_pop_2 _ _) (room9 hu) (k := .tup ks) ⟨nk_is I _ _ _ _ r1 e1 rfl, hl.1⟩ hd dd a fun h' dd' hs => ?_
              obtain ⟨ob, es', ep, a1, a2, a3, a4, a5, a6⟩ := dd'
              have J : Inv X pins σ (upd H p (HT.tiedO X.prog X.w p (withoutH xs (.tup ks)))) { s with heap := h', toks := s.toks + (nestedKind X.prog X.w).draws (.tup ks) } :=
                d_write I (by rw [h1]; exact True.intro) hs ⟨ob, a1⟩ ⟨⟨ob, es', ep, a1, a2, a3, a4, hd⟩, ⟨ob, a1⟩, fun g1 g2 ⟨o', es'', ep', c1, c2⟩ k => ⟨o', es'', ep', k _ c1, c2⟩⟩
              have kk : ∀ a, a ∉ [p] → upd H p (HT.tiedO X.prog X.w p (withoutH xs (.tup ks))) a = H a := fun a ha => upd_ne fun z => ha (by rw [z]; simp)
              have fm := Fm.but (C := (X.prog, X.w)) (F := [p]) (o := .dN es) ⟨rfl, xs, h1, h2⟩ kk
              refine ⟨v, _, J, rr, q _ (fun F hF => ?_) v (R.mono fm r)⟩
              obtain ⟨rfl, ys, h3, h4⟩ := hF
              exact ⟨kk, rfl, _, upd_same, DN.mono (H := H) ⟨⟨a6, fun x hx => h2.nd.2 x ((List.mem_filter.mp hx).1)⟩, ent_drop h2.ent⟩ fm⟩
          · cases e
        · cases e
/-! new dicts -/
variable {C : Program × World} {pos : Pos}
def mDNew (o : Ob) : Mi Val := fun ρ => some (.fr o, ρ)
theorem gx_dnewK : PE X (.Dict [] [] pos) (tX C (mDNew (.dK []))) := pe_wk pe_dnewK fun σ H Q ⟨B, H0, ρ, v, ρ', sr, em, q⟩ p hp => by
  cases em
  exact q p _ (sr.pushNew hp ⟨rfl, [], upd_same, .nil⟩) (Fm.of (same_new hp))
theorem gx_dnewN (hC : (X.prog, X.w) = C := by rfl) : PE X (.Dict [] [] pos) (tX C (mDNew (.dN []))) := ⟨fun pins s σ H Q I ⟨B, H0, ρ, v, ρ', sr, em, q⟩ => by
  subst hC
  cases em
  have nz : (s.heap.objs.size == sysModules) = false := beq_eq_false_iff_ne.mpr (Ne.symm (Nat.ne_of_lt I.big))
  have new : (s.heap.push { cls := .type "dict", data := .dict #[] }).get? s.heap.objs.size = some ({ cls := .type "dict", data := .dict #[] } : Obj) := Heap.get?_push_size _ rfl
  have J : L2.Inv X pins σ (L2.upd H s.heap.objs.size (HT.tiedO X.prog X.w s.heap.objs.size [])) { s with heap := s.heap.push { cls := .type "dict", data := .dict #[] }, toks := s.toks } :=
    I.laid (fun _ _ q => Heap.get?_push_of_some _ q) (Nat.le_refl _) ⟨⟨_, #[], 0, new, ⟨rfl, rfl, rfl⟩, rfl, rfl, nz⟩, ⟨_, new⟩, fun g1 g2 ⟨o', es', ep', c1, c2⟩ k => ⟨o', es', ep', k _ c1, c2⟩⟩
  have hp := I.hok.fresh (Nat.le_refl s.heap.objs.size)
  exact wpAny_Dict_empty ⟨.ref s.heap.objs.size, _, J, rfl, q _ _ (sr.pushNew hp ⟨rfl, [], upd_same, ⟨List.nodup_nil, fun x hx => (nomatch hx)⟩, .nil⟩) (Fm.of (same_new hp))⟩⟩
end
end G
/-! calls of the text's own defs -/
namespace G
open PySem PyProof.Rows L2 HD
/-- what a def hands back -/
inductive FR where
  | dt (x : PyData)
  | ob (o : Ob)
  | pa (k : Nat)
abbrev Mf := Env → Option (FR × Env)
def FrK (C : Program × World) (B : List (Addr × List Addr)) (H0 : Hp) (σ : L2.St) (H : Hp) (ρ : Env) (Q : VK) : FR → Prop
  | .dt x => ∀ v H', SR C B H0 σ H' ρ → R C H' v x → Fm H H' → Q v H'
  | .ob o => ∀ p H', SR C B H0 (σ ++ [some (.ref p)]) H' (ρ ++ [.own o]) → Fm H H' → Q (.ref p) H'
  | .pa k => ∀ p F H', SR C B H0 σ H' ρ → Fm H H' → B[k]? = some (p, F) → Q (.ref p) H'
/-- the promise of a def by its mirror -/
def spG (C : Program × World) (n : Nat) (m : Mf) : Sp := fun vs H Q _ => ∃ B ρ0 r ρ1, SR C B H (vs.map some) H ρ0 ∧ ρ0.length = n ∧ m ρ0 = some (r, ρ1) ∧ FrK C B H (vs.map some) H ρ1 Q r
/-- the parameters behind the body: data as it was, objects as they are -/
def parsBack : Env → Env → Option Env
  | [], _ => some []
  | .dat d :: ρ0, _ :: ρ' => (parsBack ρ0 ρ').map fun r => .dat d :: r
  | .par k _ :: ρ0, .par k' o' :: ρ' => if k = k' then (parsBack ρ0 ρ').map fun r => .par k o' :: r else none
  | _, _ => none
/-- a def's mirror from its body's -/
def fn (N : Nat) (mb : Ms) : Mf := fun ρ0 => (mb (ρ0 ++ List.replicate (N - ρ0.length) .non)).bind fun o => match o with
  | .nx ρ' => (parsBack ρ0 ρ').map fun r => (.dt .none, r)
  | .rt d ρ' => (parsBack ρ0 ρ').map fun r => (.dt d, r)
  | .ro ob ρ' => (parsBack ρ0 ρ').map fun r => (.ob ob, r)
  | .rp k ρ' => (parsBack ρ0 ρ').map fun r => (.pa k, r)
  | _ => none
section
variable {C : Program × World} {B : List (Addr × List Addr)} {H0 H H' : Hp}
theorem parsBack_at : ∀ {ρ0 ρ' r : Env}, parsBack ρ0 ρ' = some r → r.length = ρ0.length ∧ ∀ (i : Nat) (t : Sl), r[i]? = some t → (∃ d, ρ0[i]? = some (.dat d) ∧ t = .dat d) ∨ ∃ (k : Nat) (o o' : Ob), ρ0[i]? = some (.par k o) ∧ ρ'[i]? = some (.par k o') ∧ t = .par k o'
  | [], ρ', r, e => by
    cases ρ' <;> cases e <;> exact ⟨rfl, fun i t h => by simp at h⟩
  | .dat d :: ρ0, [], r, e => by cases e
  | .dat d :: ρ0, s :: ρ', r, e => by
    obtain ⟨r', e1, rfl⟩ := Option.map_eq_some_iff.mp (show (parsBack ρ0 ρ').map (fun r => Sl.dat d :: r) = some r from e)
    obtain ⟨h1, h2⟩ := parsBack_at e1
    refine ⟨by simp [h1], fun i t h => ?_⟩
    cases i with
    | zero => exact .inl ⟨d, rfl, (Option.some.inj (show some _ = some t from h)).symm⟩
    | succ i => simpa using h2 i t (by simpa using h)
  | .par k o :: ρ0, [], r, e => by cases e
  | .par k o :: ρ0, .par k' o' :: ρ', r, e => by
    have e2 : (if k = k' then (parsBack ρ0 ρ').map (fun r => Sl.par k o' :: r) else none) = some r := e
    clear e
    split at e2
    · next hk =>
      subst hk
      obtain ⟨r', e1, rfl⟩ := Option.map_eq_some_iff.mp e2
      obtain ⟨h1, h2⟩ := parsBack_at e1
      refine ⟨by simp [h1], fun i t h => ?_⟩
      cases i with
      | zero => exact .inr ⟨k, o, o', rfl, rfl, (Option.some.inj (show some _ = some t from h)).symm⟩
      | succ i => simpa using h2 i t (by simpa using h)
    · cases e2
  | .par k o :: ρ0, .non :: ρ', r, e => by cases e
  | .par k o :: ρ0, .dat d :: ρ', r, e => by cases e
  | .par k o :: ρ0, .own d :: ρ', r, e => by cases e
  | .non :: ρ0, ρ', r, e => by cases ρ' <;> cases e
  | .own _ :: ρ0, ρ', r, e => by cases ρ' <;> cases e
/-- the frame's slots at the entry -/
theorem sr_start {n : Nat} {vs : List V} {ρ0 : Env} (sr : SR C B H (vs.map some) H ρ0) : SR C B H (vs.map some ++ List.replicate n none) H (ρ0 ++ List.replicate n .non) := by
  obtain ⟨F, hF, hd⟩ := sr.rep
  have hl := sr.len
  have ob : ∀ {i : Nat} {s : Sl}, (ρ0 ++ List.replicate n .non)[i]? = some s → s.ob.isSome = true → ρ0[i]? = some s := fun {i s} x hs => by
    by_cases hi : i < ρ0.length
    · rw [List.getElem?_append_left hi] at x
      exact x
    · rw [List.getElem?_append_right (by omega), List.getElem?_replicate] at x
      split at x
      · cases x
        cases hs
      · cases x
  refine ⟨by simp [hl] <;> simpa using hl, sr.off, sr.grow, sr.fm, sr.bx, F, fun i s v x y => ?_, fun i j s t ne x y hs ht => hd i j s t ne (ob x hs) (ob y ht) hs ht⟩
  by_cases hi : i < ρ0.length
  · rw [List.getElem?_append_left hi] at x
    rw [List.getElem?_append_left (by omega)] at y
    exact hF i s v x y
  · rw [List.getElem?_append_right (by omega), List.getElem?_replicate] at x
    split at x
    · cases x
      trivial
    · cases x
/-- the parameters' slots behind the body -/
theorem sr_back {vs : List V} {ρ0 ρ' r : Env} {σ' : L2.St} (s0 : SR C B H (vs.map some) H ρ0) (s1 : SR C B H σ' H' ρ') (e : parsBack ρ0 ρ' = some r) : SR C B H (vs.map some) H' r := by
  obtain ⟨h1, h2⟩ := parsBack_at e
  obtain ⟨F0, hF0, hd0⟩ := s0.rep
  obtain ⟨F1, hF1, hd1⟩ := s1.rep
  refine ⟨by rw [h1]; exact s0.len, s1.off, s1.grow, s1.fm, s1.bx, F1, fun i t v x y => ?_, fun i j s t ne x y hs ht => ?_⟩
  · rcases h2 i t x with ⟨d, e1, rfl⟩ | ⟨k, o, o', e1, e2, rfl⟩
    · obtain ⟨w, e3, r⟩ := hF0 i _ v e1 y
      exact ⟨w, e3, r.mono s1.fm⟩
    · obtain ⟨p, e3, _, e4⟩ := hF0 i _ v e1 y
      obtain ⟨w, hw⟩ := s1.get e2
      obtain ⟨q, e5, rr, e6⟩ := hF1 i _ w e2 hw
      rw [e4] at e6
      have e7 := Option.some.inj e6
      have e8 : p = q := congrArg Prod.fst e7
      subst e8
      exact ⟨p, e3, rr, by rw [e4, e7]⟩
  · have ob : ∀ {i : Nat} {s : Sl}, r[i]? = some s → s.ob.isSome = true → ρ'[i]? = some s := fun {i s} x hs => by
      rcases h2 i s x with ⟨d, e1, rfl⟩ | ⟨k, o, o', e1, e2, rfl⟩
      · cases hs
      · exact e2
    exact hd1 i j s t ne (ob x hs) (ob y ht) hs ht
/-- a body that is mirrored keeps the promise -/
theorem fn_run {N : List Str} {n : Nat} {mb : Ms} {vs : List V} {Q : VK} {E : XK} (h : spG C n (fn N.length mb) vs H Q E) : tS C mb { nx := fun _ H' => Q .non H', rt := Q } (L2.start N vs) H := by
  obtain ⟨B, ρ0, r, ρ1, sr, hn, em, q⟩ := h
  have hl : vs.length = ρ0.length := by have := sr.len; rwa [List.length_map] at this
  obtain ⟨o, e1, em⟩ := Option.bind_eq_some_iff.mp em
  refine ⟨B, H, ρ0 ++ List.replicate (N.length - ρ0.length) .non, o, ?_, e1, ?_⟩
  · unfold L2.start
    rw [hl]
    exact sr_start sr
  · cases o with
    | nx ρ' =>
      obtain ⟨ρ2, e2, em⟩ := Option.map_eq_some_iff.mp em
      cases em
      exact fun σ' H' s f => q .non H' (sr_back sr s e2) .non f
    | rt d ρ' =>
      obtain ⟨ρ2, e2, em⟩ := Option.map_eq_some_iff.mp em
      cases em
      exact fun v σ' H' s f r => q v H' (sr_back sr s e2) r f
    | ro ob ρ' =>
      obtain ⟨ρ2, e2, em⟩ := Option.map_eq_some_iff.mp em
      cases em
      intro p σ' H' s f
      refine q p H' ?_ f
      obtain ⟨F, hr, n0, s1⟩ := s.hold
      have hb := sr_back sr s.pop e2
      -- the new object beside the parameters
      obtain ⟨G, hG, hd⟩ := s.rep
      obtain ⟨h1, h2⟩ := parsBack_at e2
      have hl' := s.len
      rw [List.length_append, List.length_append, List.length_singleton, List.length_singleton] at hl'
      have last : (ρ' ++ [Sl.own ob])[ρ'.length]? = some (.own ob) := by rw [List.getElem?_append_right (Nat.le_refl _), Nat.sub_self]; rfl
      have lastV : (σ' ++ [some (V.ref p)])[ρ'.length]? = some (some (.ref p)) := by rw [List.getElem?_append_right (by omega), show ρ'.length - σ'.length = 0 by omega]; rfl
      obtain ⟨p', e3, hr', n'⟩ := hG _ _ _ last lastV
      cases e3
      obtain ⟨Fb, hFb, hdb⟩ := hb.rep
      refine ⟨by simp [hb.len], hb.off, hb.grow, hb.fm, hb.bx, push_rep hb.len hFb hdb (G := G ρ'.length) ⟨p, rfl, hr', n'⟩ fun _ a ha i t x ht hm => ?_⟩
      rcases h2 i t x with ⟨d, e1, rfl⟩ | ⟨k, o, o', e1, e2', rfl⟩
      · cases ht
      · obtain ⟨w, hw⟩ := hb.get x
        obtain ⟨q1, _, _, hB⟩ := hFb i _ w x hw
        exact sr.bx _ (List.mem_of_getElem? hB) a hm (n' a ha)
    | rp k ρ' =>
      obtain ⟨ρ2, e2, em⟩ := Option.map_eq_some_iff.mp em
      cases em
      exact fun p F σ' H' s f hb => q p F H' (sr_back sr s e2) f hb
    | bk ρ' => cases em
    | ct ρ' => cases em
theorem spG_len {n : Nat} {m : Mf} {vs : List V} {Q : VK} {E : XK} (h : spG C n m vs H Q E) : vs.length = n := by
  obtain ⟨B, ρ0, r, ρ1, sr, hn, _⟩ := h
  have := sr.len
  rw [List.length_map] at this
  omega
/-! the caller -/
def bors : List AV → List Nat
  | [] => []
  | .d _ :: as => bors as
  | .b i :: as => i :: bors as
def bindA (ρ : Env) : Nat → List AV → Option Env
  | _, [] => some []
  | k, .d x :: as => (bindA ρ k as).map fun r => .dat x :: r
  | k, .b i :: as => (slotOb ρ i).bind fun o => (bindA ρ (k + 1) as).map fun r => .par k o :: r
def backA : Env → List AV → Env → Option Env
  | ρ, [], [] => some ρ
  | ρ, .d _ :: as, _ :: ss => backA ρ as ss
  | ρ, .b i :: as, .par _ o :: ss => backA (setOb ρ i o) as ss
  | _, _, _ => none
def FR.val (as : List AV) : FR → Option Val
  | .dt x => some (.d x)
  | .ob o => some (.fr o)
  | .pa k => ((bors as)[k]?).map Val.b
/-- f(..) by f's mirror -/
def mCall (mf : Mf) (ms : List (Mi Val)) : Mi Val := fun ρ => (mArgs ms ρ).bind fun r => (chk (bors r.1).Nodup).bind fun _ => (bindA r.2 0 r.1).bind fun ρ0 => (mf ρ0).bind fun q => (q.1.val r.1).bind fun v => (backA r.2 r.1 q.2).map fun ρ2 => (v, ρ2)
/-- the addresses of slot i -/
def adr (σ : L2.St) (i : Nat) : Addr := match σ[i]? with
  | some (some (.ref p)) => p
  | _ => 0
variable {σ : L2.St} {ρ : Env}
theorem bindA_at : ∀ {k : Nat} {as : List AV} {ρ0 : Env}, bindA ρ k as = some ρ0 → ρ0.length = as.length ∧ ∀ (j : Nat) (a : AV), as[j]? = some a → (∃ x, a = .d x ∧ ρ0[j]? = some (.dat x)) ∨ ∃ (i : Nat) (o : Ob) (m : Nat), a = .b i ∧ slotOb ρ i = some o ∧ ρ0[j]? = some (.par (k + m) o) ∧ (bors as)[m]? = some i
  | k, [], ρ0, e => by
    cases e
    exact ⟨rfl, fun j a h => by simp at h⟩
  | k, .d x :: as, ρ0, e => by
    obtain ⟨r, e1, rfl⟩ := Option.map_eq_some_iff.mp (show (bindA ρ k as).map (fun r => Sl.dat x :: r) = some ρ0 from e)
    obtain ⟨h1, h2⟩ := bindA_at e1
    refine ⟨by simp [h1], fun j a h => ?_⟩
    cases j with
    | zero => exact .inl ⟨x, (Option.some.inj (show some _ = some a from h)).symm, rfl⟩
    | succ j => simpa [bors] using h2 j a (by simpa using h)
  | k, .b i :: as, ρ0, e => by
    obtain ⟨o, e0, e⟩ := Option.bind_eq_some_iff.mp (show (slotOb ρ i).bind (fun o => (bindA ρ (k + 1) as).map fun r => Sl.par k o :: r) = some ρ0 from e)
    obtain ⟨r, e1, rfl⟩ := Option.map_eq_some_iff.mp e
    obtain ⟨h1, h2⟩ := bindA_at e1
    refine ⟨by simp [h1], fun j a h => ?_⟩
    cases j with
    | zero => exact .inr ⟨i, o, 0, (Option.some.inj (show some _ = some a from h)).symm, e0, rfl, rfl⟩
    | succ j =>
      rcases h2 j a (by simpa using h) with ⟨x, e2, e3⟩ | ⟨i', o', m, e2, e3, e4, e5⟩
      · exact .inl ⟨x, e2, by simpa using e3⟩
      · exact .inr ⟨i', o', m + 1, e2, e3, by rw [show k + (m + 1) = k + 1 + m by omega]; simpa using e4, by simpa [bors] using e5⟩
theorem bindA_dom : ∀ {k : Nat} {as : List AV} {ρ0 : Env}, bindA ρ k as = some ρ0 → ∀ (j : Nat) (t : Sl), ρ0[j]? = some t → ∃ a, as[j]? = some a := fun {k as ρ0} e j t h => by
  have h1 := (bindA_at e).1
  have h2 := (List.getElem?_eq_some_iff.mp h).1
  exact ⟨_, List.getElem?_eq_getElem (by omega)⟩
theorem AvsOk.at : ∀ {vs : List V} {as : List AV}, AvsOk C σ H vs as → ∀ {j : Nat} {v : V} {a : AV}, vs[j]? = some v → as[j]? = some a → AvOk C σ H v a
  | _, _, .nil, _, _, _, e, _ => by simp at e
  | _, _, .cons h t, 0, _, _, e1, e2 => by
    cases (show some _ = some _ from e1)
    cases (show some _ = some _ from e2)
    exact h
  | _, _, .cons h t, j + 1, _, _, e1, e2 => AvsOk.at (j := j) t (by simpa using e1) (by simpa using e2)
theorem nodup_at {l : List Nat} (h : l.Nodup) {i j : Nat} {x : Nat} (a : l[i]? = some x) (b : l[j]? = some x) : i = j := by
  have hi := (List.getElem?_eq_some_iff.mp a).1
  have hj := (List.getElem?_eq_some_iff.mp b).1
  rcases Nat.lt_trichotomy i j with z | z | z
  · exact absurd ((List.getElem?_eq_some_iff.mp a).2.trans (List.getElem?_eq_some_iff.mp b).2.symm) (List.pairwise_iff_getElem.mp h i j hi hj z)
  · exact z
  · exact absurd ((List.getElem?_eq_some_iff.mp b).2.trans (List.getElem?_eq_some_iff.mp a).2.symm) (List.pairwise_iff_getElem.mp h j i hj hi z)
theorem bors_mem : ∀ {as : List AV} {i : Nat}, i ∈ bors as → ∃ j : Nat, as[j]? = some (.b i)
  | [], _, h => by cases h
  | .d x :: as, i, h => by
    obtain ⟨j, e⟩ := bors_mem (as := as) h
    exact ⟨j + 1, by simpa using e⟩
  | .b k :: as, i, h => by
    rcases List.mem_cons.mp h with rfl | h
    · exact ⟨0, rfl⟩
    · obtain ⟨j, e⟩ := bors_mem (as := as) h
      exact ⟨j + 1, by simpa using e⟩
theorem setOb_len {i : Nat} {o : Ob} : (setOb ρ i o).length = ρ.length := by
  unfold setOb
  split
  · rw [List.length_set]
  · rfl
theorem setOb_ne {i j : Nat} {o : Ob} (h : i ≠ j) : (setOb ρ i o)[j]? = ρ[j]? := by
  unfold setOb
  split
  · rw [List.getElem?_set_ne h]
  · rfl
theorem setOb_at {i : Nat} {o : Ob} {s : Sl} (h : ρ[i]? = some s) : (setOb ρ i o)[i]? = some (s.put o) := by
  unfold setOb
  rw [h]
  dsimp only
  rw [List.getElem?_set_self (List.getElem?_eq_some_iff.mp h).1]
theorem backA_at : ∀ {as : List AV} {ρ ρ1 ρ2 : Env}, backA ρ as ρ1 = some ρ2 → (bors as).Nodup → ρ2.length = ρ.length ∧ (∀ i : Nat, i ∉ bors as → ρ2[i]? = ρ[i]?) ∧ ∀ (j i : Nat) (s : Sl), as[j]? = some (.b i) → ρ[i]? = some s → ∃ (k : Nat) (o : Ob), ρ1[j]? = some (.par k o) ∧ ρ2[i]? = some (s.put o)
  | [], ρ, [], ρ2, e, _ => by
    cases e
    exact ⟨rfl, fun _ _ => rfl, fun j i s h => by simp at h⟩
  | [], ρ, _ :: _, ρ2, e, _ => by cases e
  | .d x :: as, ρ, [], ρ2, e, _ => by cases e
  | .d x :: as, ρ, t :: ρ1, ρ2, e, hn => by
    obtain ⟨h1, h2, h3⟩ := backA_at (show backA ρ as ρ1 = some ρ2 from e) hn
    refine ⟨h1, h2, fun j i s h hs => ?_⟩
    cases j with
    | zero => cases (show some _ = some _ from h)
    | succ j => simpa using h3 j i s (by simpa using h) hs
  | .b m :: as, ρ, [], ρ2, e, _ => by cases e
  | .b m :: as, ρ, .par k o :: ρ1, ρ2, e, hn => by
    obtain ⟨hm, hn'⟩ := List.nodup_cons.mp hn
    obtain ⟨h1, h2, h3⟩ := backA_at (show backA (setOb ρ m o) as ρ1 = some ρ2 from e) hn'
    refine ⟨h1.trans setOb_len, fun i hi => ?_, fun j i s h hs => ?_⟩
    · rw [bors, List.mem_cons, not_or] at hi
      rw [h2 i hi.2, setOb_ne (fun z => hi.1 z.symm)]
    · cases j with
      | zero =>
        cases (show some _ = some _ from h)
        exact ⟨k, o, rfl, by rw [h2 _ hm, setOb_at hs]⟩
      | succ j =>
        have hj : as[j]? = some (.b i) := by simpa using h
        have ne : m ≠ i := fun z => hm (by
          rw [z]
          have gen : ∀ {l : List AV} {j : Nat}, l[j]? = some (.b i) → i ∈ bors l := by
            intro l
            induction l with
            | nil => intro j h; simp at h
            | cons a l ih =>
              intro j h
              cases j with
              | zero =>
                cases (show some _ = some _ from h)
                simp [bors]
              | succ j =>
                have := ih (j := j) (by simpa using h)
                cases a with
                | d x => exact this
                | b y => exact List.mem_cons_of_mem _ this
          exact gen hj)
        obtain ⟨k', o', e1, e2⟩ := h3 j i s hj (by rw [setOb_ne ne]; exact hs)
        exact ⟨k', o', by simpa using e1, e2⟩
  | .b m :: as, ρ, .non :: ρ1, ρ2, e, _ => by cases e
  | .b m :: as, ρ, .dat _ :: ρ1, ρ2, e, _ => by cases e
  | .b m :: as, ρ, .own _ :: ρ1, ρ2, e, _ => by cases e
/-- the callee's slots -/
theorem callee_in {B : List (Addr × List Addr)} {H0 H : Hp} {vs : List V} {as : List AV} {ρ0 : Env} {F : Nat → List Addr} (sr : SR C B H0 σ H ρ) (hF : ∀ i s v, ρ[i]? = some s → σ[i]? = some v → SlOk C B H0 H (F i) v s)
    (hd : ∀ i j s t, i ≠ j → ρ[i]? = some s → ρ[j]? = some t → s.ob.isSome = true → t.ob.isSome = true → ∀ a ∈ F i, a ∉ F j) (ha : AvsOk C σ H vs as) (hn : (bors as).Nodup) (e : bindA ρ 0 as = some ρ0) :
    SR C ((bors as).map fun i => (adr σ i, F i)) H (vs.map some) H ρ0 := by
  obtain ⟨h1, h2⟩ := bindA_at e
  have obs : ∀ {i : Nat} {o : Ob}, slotOb ρ i = some o → ∃ s p, ρ[i]? = some s ∧ s.ob = some o ∧ σ[i]? = some (some (.ref p)) ∧ Rep C H p (F i) o := fun {i o} h => by
    unfold slotOb at h
    obtain ⟨t, g1, g2⟩ := Option.bind_eq_some_iff.mp h
    obtain ⟨v, hv⟩ := sr.get g1
    have ok := hF i t v g1 hv
    cases t with
    | non => cases g2
    | dat d => cases g2
    | own o' =>
      cases g2
      obtain ⟨p, rfl, r, _⟩ := ok
      exact ⟨_, p, g1, rfl, hv, r⟩
    | par k o' =>
      cases g2
      obtain ⟨p, rfl, r, _⟩ := ok
      exact ⟨_, p, g1, rfl, hv, r⟩
  refine ⟨by rw [List.length_map, ha.length, h1], fun a u x _ => x, fun a x => x, Fm.refl H, fun b hb a hab => ?_, fun j => match as[j]? with
    | some (.b i) => F i
    | _ => [], fun j t v x y => ?_, fun j k s t ne x y hs ht a hja => ?_⟩
  · obtain ⟨i, hi, rfl⟩ := List.mem_map.mp hb
    obtain ⟨j, hj⟩ := bors_mem hi
    rcases h2 j _ hj with ⟨x, e1, _⟩ | ⟨i', o, m, e1, e2, _⟩
    · cases e1
    · cases e1
      obtain ⟨s, p, _, _, _, r⟩ := obs e2
      obtain ⟨u, e3, _⟩ := r.nf a hab
      rw [e3]
      exact fun z => nomatch z
  · obtain ⟨a, ea⟩ := bindA_dom e j t x
    rw [List.getElem?_map] at y
    obtain ⟨w, ew, rfl⟩ := Option.map_eq_some_iff.mp y
    have av := AvsOk.at ha ew ea
    dsimp only
    rcases h2 j a ea with ⟨d, rfl, e1⟩ | ⟨i, o, m, rfl, e1, e2, e3⟩
    · rw [x] at e1
      cases e1
      exact ⟨w, rfl, av⟩
    · rw [x] at e2
      cases e2
      obtain ⟨s, p, g1, g2, g3, g4⟩ := obs e1
      have av : σ[i]? = some (some w) := av
      rw [g3] at av
      cases av
      rw [ea]
      refine ⟨p, rfl, g4, ?_⟩
      rw [Nat.zero_add, List.getElem?_map, e3]
      show some (adr σ i, F i) = _
      unfold adr
      rw [g3]
  · obtain ⟨a1, ea1⟩ := bindA_dom e j s x
    obtain ⟨a2, ea2⟩ := bindA_dom e k t y
    dsimp only at hja ⊢
    rw [ea1] at hja
    rw [ea2]
    rcases h2 j a1 ea1 with ⟨d, rfl, e1⟩ | ⟨i, o, m, rfl, e1, e2, e3⟩
    · cases hja
    · rcases h2 k a2 ea2 with ⟨d, rfl, f1⟩ | ⟨i', o', m', rfl, f1, f2, f3⟩
      · exact fun z => nomatch z
      · obtain ⟨s1, p1, g1, g2, _⟩ := obs e1
        obtain ⟨s2, p2, k1, k2, _⟩ := obs f1
        refine hd i i' s1 s2 (fun z => ?_) g1 k1 (by rw [g2]; rfl) (by rw [k2]; rfl) a hja
        subst z
        -- one slot is handed in once
        have key : ∀ {l : List AV}, (bors l).Nodup → ∀ {p q : Nat}, l[p]? = some (.b i) → l[q]? = some (.b i) → p = q := by
          intro l
          induction l with
          | nil => intro _ p q h; simp at h
          | cons a l ih =>
            intro hn p q hp hq
            have mem : ∀ {q : Nat}, l[q]? = some (.b i) → i ∈ bors l := by
              intro q
              clear ih hn hp hq
              induction l generalizing q with
              | nil => intro h; simp at h
              | cons c l ih2 =>
                intro h
                cases q with
                | zero =>
                  cases (show some _ = some _ from h)
                  simp [bors]
                | succ q =>
                  have := ih2 (q := q) (by simpa using h)
                  cases c with
                  | d x => exact this
                  | b z => exact List.mem_cons_of_mem _ this
            cases p with
            | zero =>
              cases (show some _ = some _ from hp)
              cases q with
              | zero => rfl
              | succ q => exact absurd (mem (q := q) (by simpa using hq)) (List.nodup_cons.mp hn).1
            | succ p =>
              cases q with
              | zero =>
                cases (show some _ = some _ from hq)
                exact absurd (mem (q := p) (by simpa using hp)) (List.nodup_cons.mp hn).1
              | succ q =>
                have hn' : (bors l).Nodup := by
                  cases a with
                  | d x => exact hn
                  | b z => exact (List.nodup_cons.mp hn).2
                rw [ih hn' (p := p) (q := q) (by simpa using hp) (by simpa using hq)]
        exact ne (key hn ea1 ea2)
/-- the caller's slots behind the call -/
theorem caller_out {B : List (Addr × List Addr)} {H0 H H' : Hp} {vs : List V} {as : List AV} {ρ0 ρ1 ρ2 : Env} {F : Nat → List Addr} (sr : SR C B H0 σ H ρ) (hF : ∀ i s v, ρ[i]? = some s → σ[i]? = some v → SlOk C B H0 H (F i) v s)
    (hd : ∀ i j s t, i ≠ j → ρ[i]? = some s → ρ[j]? = some t → s.ob.isSome = true → t.ob.isSome = true → ∀ a ∈ F i, a ∉ F j) (ha : AvsOk C σ H vs as) (hn : (bors as).Nodup) (e : bindA ρ 0 as = some ρ0)
    (s1 : SR C ((bors as).map fun i => (adr σ i, F i)) H (vs.map some) H' ρ1) (e2 : backA ρ as ρ1 = some ρ2) : SR C B H0 σ H' ρ2 ∧ (∀ i s v, ρ2[i]? = some s → σ[i]? = some v → SlOk C B H0 H' (F i) v s) ∧
    (∀ i j s t, i ≠ j → ρ2[i]? = some s → ρ2[j]? = some t → s.ob.isSome = true → t.ob.isSome = true → ∀ a ∈ F i, a ∉ F j) ∧ ∀ i s, ρ2[i]? = some s → s.ob.isSome = true → ∀ a ∈ F i, H a ≠ none := by
  obtain ⟨b1, b2, b3⟩ := backA_at e2 hn
  obtain ⟨h1, h2⟩ := bindA_at e
  obtain ⟨G, hG, _⟩ := s1.rep
  have obs : ∀ {i : Nat}, i ∈ bors as → ∃ (s : Sl) (p : Addr) (o : Ob) (j : Nat), as[j]? = some (.b i) ∧ ρ[i]? = some s ∧ (s = .own o ∨ ∃ k, s = .par k o) ∧ σ[i]? = some (some (.ref p)) ∧ Rep C H p (F i) o := fun {i} hi => by
    obtain ⟨j, hj⟩ := bors_mem hi
    rcases h2 j _ hj with ⟨x, q1, _⟩ | ⟨i', o, m, q1, q2, q3, q4⟩
    · cases q1
    · cases q1
      unfold slotOb at q2
      obtain ⟨t, g1, g2⟩ := Option.bind_eq_some_iff.mp q2
      obtain ⟨v, hv⟩ := sr.get g1
      have ok := hF i t v g1 hv
      cases t with
      | non => cases g2
      | dat d => cases g2
      | own o' =>
        cases g2
        obtain ⟨p, rfl, r, _⟩ := ok
        exact ⟨_, p, _, j, hj, g1, .inl rfl, hv, r⟩
      | par k o' =>
        cases g2
        obtain ⟨p, rfl, r, _⟩ := ok
        exact ⟨_, p, _, j, hj, g1, .inr ⟨k, rfl⟩, hv, r⟩
  have isob : ∀ {s : Sl} {o : Ob}, (s = .own o ∨ ∃ k, s = .par k o) → s.ob.isSome = true := fun {s o} h => by
    rcases h with rfl | ⟨k, rfl⟩ <;> rfl
  have slot : ∀ {i : Nat}, i ∈ bors as → ∃ (s : Sl) (p : Addr) (o o' : Ob), ρ[i]? = some s ∧ (s = .own o ∨ ∃ k, s = .par k o) ∧ σ[i]? = some (some (.ref p)) ∧ Rep C H p (F i) o ∧ ρ2[i]? = some (s.put o') ∧ Rep C H' p (F i) o' := fun {i} hi => by
    obtain ⟨s, p, o, j, hj, g1, g2, g3, g4⟩ := obs hi
    obtain ⟨k, o', c1, c2⟩ := b3 j i s hj g1
    obtain ⟨w, hw⟩ := s1.get c1
    obtain ⟨p', rfl, d2, d3⟩ := hG j _ w c1 hw
    rw [List.getElem?_map] at hw
    obtain ⟨v, ev, e3⟩ := Option.map_eq_some_iff.mp hw
    cases e3
    have av : σ[i]? = some (some (.ref p')) := AvsOk.at ha ev hj
    rw [g3] at av
    cases av
    rw [List.getElem?_map] at d3
    obtain ⟨i2, f1, f2⟩ := Option.map_eq_some_iff.mp d3
    have f3 : adr σ i2 = p := congrArg Prod.fst f2
    have f4 : F i2 = G j := congrArg Prod.snd f2
    obtain ⟨s', p2, o2, j2, _, k1, k2, k3, k4⟩ := obs (List.mem_of_getElem? f1)
    have f5 : p2 = p := by
      unfold adr at f3
      rw [k3] at f3
      exact f3
    have f6 : i = i2 := by
      by_cases z : i = i2
      · exact z
      · exact absurd (f5 ▸ k4.self) (hd i i2 s s' z g1 k1 (isob g2) (isob k2) p g4.self)
    subst f6
    rw [← f4] at d2
    exact ⟨s, p, o, o', g1, g2, g3, g4, c2, d2⟩
  -- what is touched
  have inB : ∀ {a : Addr}, (∀ i, i ∈ bors as → a ∉ F i) → ∀ b ∈ (bors as).map (fun i => (adr σ i, F i)), a ∉ b.2 := fun {a} h b hb => by
    obtain ⟨i, hi, rfl⟩ := List.mem_map.mp hb
    exact h i hi
  have back : ∀ {i : Nat} {t : Sl}, ρ2[i]? = some t → t.ob.isSome = true → ∃ t' : Sl, ρ[i]? = some t' ∧ t'.ob.isSome = true := fun {i t} x ht => by
    by_cases hi : i ∈ bors as
    · obtain ⟨s, p, o, o', g1, g2, _⟩ := slot hi
      exact ⟨s, g1, isob g2⟩
    · rw [b2 i hi] at x
      exact ⟨t, x, ht⟩
  have P1 : ∀ i s v, ρ2[i]? = some s → σ[i]? = some v → SlOk C B H0 H' (F i) v s := fun i t v x y => by
    by_cases hi : i ∈ bors as
    · obtain ⟨s, p, o, o', g1, g2, g3, g4, g5, g6⟩ := slot hi
      rw [g5] at x
      rw [g3] at y
      cases x
      cases y
      have ok := hF i s _ g1 g3
      rcases g2 with rfl | ⟨k, rfl⟩
      · obtain ⟨_, e1, _, n⟩ := ok
        exact ⟨p, rfl, g6, n⟩
      · obtain ⟨_, e1, _, n⟩ := ok
        cases e1
        exact ⟨p, rfl, g6, n⟩
    · rw [b2 i hi] at x
      have ok := hF i t v x y
      refine ok.keep (fun z a ha => ?_) s1.fm
      obtain ⟨u, eu⟩ := ok.there z a ha
      rw [eu, s1.off a u eu (inB fun k hk hak => ?_)]
      obtain ⟨s, p, o, _, _, g1, g2, g3, g4⟩ := obs hk
      exact hd i k t s (fun z => hi (z ▸ hk)) x g1 z (isob g2) a ha hak
  have P2 : ∀ i j s t, i ≠ j → ρ2[i]? = some s → ρ2[j]? = some t → s.ob.isSome = true → t.ob.isSome = true → ∀ a ∈ F i, a ∉ F j := fun i j t u ne x y ht hu => by
    obtain ⟨t', x', ht'⟩ := back x ht
    obtain ⟨u', y', hu'⟩ := back y hu
    exact hd i j t' u' ne x' y' ht' hu'
  refine ⟨⟨by rw [b1]; exact sr.len, fun a u x y => s1.off a u (sr.off a u x y) (inB fun i hi ha => ?_), fun a x => sr.grow a (s1.grow a x), sr.fm.trans s1.fm, sr.bx, F, P1, P2⟩, P1, P2, fun i s x hs a ha => ?_⟩
  · obtain ⟨s, p, o, _, _, g1, g2, g3, g4⟩ := obs hi
    have ok := hF i s _ g1 g3
    rcases g2 with rfl | ⟨k, rfl⟩
    · obtain ⟨_, _, _, n⟩ := ok
      rw [n a ha] at x
      cases x
    · obtain ⟨_, _, _, n⟩ := ok
      exact y _ (List.mem_of_getElem? n) ha
  · obtain ⟨t', x', ht'⟩ := back x hs
    obtain ⟨v, hv⟩ := sr.get x'
    obtain ⟨u, eu⟩ := (hF i t' v x' hv).there ht' a ha
    rw [eu]
    exact fun z => nomatch z
end
section
variable {X : Cx} {C : Program × World} {k : Nat} {f : Addr} {fd : FuncData} {ps : List Str} {n : Nat} {mf : Mf} {x : Str} {p pos : Pos} {e : Expr} {es : List Expr} {ms : List (Mi Val)} {E : XK} {CX : CXT}
/-- the call, by the slots -/
theorem call_core {B : List (Addr × List Addr)} {H0 H1 : Hp} {σ : L2.St} {ρ1 ρ0 ρ2 : Env} {vs : List V} {as : List AV} {r : FR} {q1 : Env} {v : Val} {Q : VK} (sr : SR C B H0 σ H1 ρ1) (ha : AvsOk C σ H1 vs as) (hn : (bors as).Nodup) (hb : bindA ρ1 0 as = some ρ0) (hl : as.length = n) (hm : mf ρ0 = some (r, q1)) (hv : r.val as = some v) (hr : backA ρ1 as q1 = some ρ2)
    (q : ValK C B H0 σ H1 ρ2 Q v) : spG C n mf vs H1 Q E := by
  obtain ⟨F, hF, hd⟩ := sr.rep
  have sin := callee_in sr hF hd ha hn hb
  refine ⟨_, ρ0, r, q1, sin, by rw [(bindA_at hb).1]; exact hl, hm, ?_⟩
  cases r with
  | dt d =>
    cases hv
    exact fun w H' s rr ff => q w H' (caller_out sr hF hd ha hn hb s hr).1 rr ff
  | ob o =>
    cases hv
    intro p H' s ff
    refine q p H' ?_ ff
    obtain ⟨s0, hF2, hd2, hx2⟩ := caller_out sr hF hd ha hn hb s.pop hr
    obtain ⟨G, hG, hdg⟩ := s.rep
    have hl' := s.len
    rw [List.length_append, List.length_append, List.length_singleton, List.length_singleton] at hl'
    have last : (q1 ++ [Sl.own o])[q1.length]? = some (.own o) := by rw [List.getElem?_append_right (Nat.le_refl _), Nat.sub_self]; rfl
    have lastV : (vs.map some ++ [some (V.ref p)])[q1.length]? = some (some (.ref p)) := by rw [List.getElem?_append_right (by omega), show q1.length - (vs.map some).length = 0 by omega]; rfl
    obtain ⟨p', e3, hr', n'⟩ := hG _ _ _ last lastV
    cases e3
    refine ⟨by simp [s0.len], s0.off, s0.grow, s0.fm, s0.bx, push_rep s0.len hF2 hd2 (G := G q1.length) ⟨p, rfl, hr', fun a ha => sr.grow a (n' a ha)⟩ fun _ a ha i t x ht hm => ?_⟩
    exact hx2 i t x ht a hm (n' a ha)
  | pa k =>
    obtain ⟨i, hi, rfl⟩ := Option.map_eq_some_iff.mp hv
    intro p F' H' s ff hB
    rw [List.getElem?_map, hi] at hB
    have e1 : adr σ i = p := congrArg Prod.fst (Option.some.inj hB)
    refine q (.ref p) H' (caller_out sr hF hd ha hn hb s hr).1 ?_ ff
    obtain ⟨j, hj⟩ := bors_mem (List.mem_of_getElem? hi)
    rcases (bindA_at hb).2 j _ hj with ⟨x, q1, _⟩ | ⟨i', o, m, q1, q2, _⟩
    · cases q1
    · cases q1
      obtain ⟨_, p', _, _, hp, _⟩ := sr.at q2
      unfold adr at e1
      rw [hp] at e1
      have e1 : p' = p := e1
      rw [hp, e1]
theorem mCall_run {σ : L2.St} {H : Hp} {Q : VK} (h : tX C (mCall mf ms) σ H Q) (hl : ms.length = n) : tCall (spG C n mf) [] E (tAs C (mArgs ms)) σ H Q := by
  obtain ⟨B, H0, ρ, v, ρ', sr, em, q⟩ := h
  obtain ⟨⟨as, ρ1⟩, h1, em⟩ := Option.bind_eq_some_iff.mp em
  obtain ⟨_, h2, em⟩ := Option.bind_eq_some_iff.mp em
  obtain ⟨ρ0, h3, em⟩ := Option.bind_eq_some_iff.mp em
  obtain ⟨⟨r, q1⟩, h4, em⟩ := Option.bind_eq_some_iff.mp em
  obtain ⟨v', h5, em⟩ := Option.bind_eq_some_iff.mp em
  obtain ⟨ρ2, h6, em⟩ := Option.map_eq_some_iff.mp em
  cases em
  refine ⟨B, H0, ρ, as, ρ1, sr, h1, fun vs H1 s1 a1 f1 => ?_⟩
  show spG C n mf (vs ++ []) H1 Q E
  rw [List.append_nil]
  exact call_core s1 a1 (chk_some h2) h3 (by rw [mArgs_len h1, hl]) h4 h5 h6 (q.from f1)
theorem gx_call (F : FnOk X.prog X.w X.K X.mg X.base CX k f fd ps (spG C n mf)) (hr : Room k X.A) (hg : Gl X x) (hm : X.mg x = some (.ref f)) (hk : PySem.W.keepIn X.K (.ref f) = true) (hb : Binds X.K fd ps []) (hx : Passes CX X E)
    (ha : PA X (e :: es) (tAs C (mArgs ms))) (hl : ms.length = n := by rfl) (hdb : (x == ("__debug__" : Str)) = false := by decide) (he : starEach (e :: es) X.env = (false, eval e X.env) :: starEach es X.env := by rfl) (hpl : (backTo pos (starEach es X.env)).any (·.1) = false := by rfl) :
    PE X (.Call (.Name x p) (e :: es) [] pos) (tX C (mCall mf ms)) := pe_wk (pe_call F hr hg hm hk hb .nil hx ha hdb he hpl) fun σ H Q h => mCall_run h hl
/-- f(.., a second thing that is new) : f changes it and hands it back, or something else -/
def mCallT (mf : Mf) (m1 m2 : Mi Val) : Mi Val := fun ρ => (fz m1 ρ).bind fun a => (m2 a.2).bind fun b => match b.1 with
  | .fr o => (fun ρe : Env => (chk (bors [a.1, .b b.2.length]).Nodup).bind fun _ => (bindA ρe 0 [a.1, .b b.2.length]).bind fun ρ0 => (mf ρ0).bind fun q => match q.1 with
    | .pa k => (chk ((bors [a.1, .b b.2.length])[k]? = some b.2.length)).bind fun _ => (backA ρe [a.1, .b b.2.length] q.2).bind fun ρ2 => (ρ2[b.2.length]?).bind fun s => s.ob.map fun o' => (.fr o', ρ2.take b.2.length)
    | _ => none) (b.2 ++ [.own o])
  | _ => none
theorem take_put {C : Program × World} {B : List (Addr × List Addr)} {H0 H : Hp} {σ : L2.St} {ρ : Env} {s : Sl} {p : Addr} {n : Nat} (h : SR C B H0 (σ ++ [some (.ref p)]) H ρ) (hn : σ.length = n) (hs : ρ[n]? = some s) : ρ = ρ.take n ++ [s] := by
  have hl := h.len
  rw [List.length_append, List.length_singleton, hn] at hl
  refine List.ext_getElem? fun i => ?_
  by_cases hi : i < n
  · rw [List.getElem?_append_left (by rw [List.length_take]; omega), List.getElem?_take_of_lt hi]
  · rw [List.getElem?_append_right (by rw [List.length_take]; omega), List.length_take, Nat.min_eq_left (by omega)]
    by_cases hi2 : i = n
    · rw [hi2, hs, Nat.sub_self]
      rfl
    · rw [List.getElem?_eq_none (by omega), List.getElem?_eq_none (by simp; omega)]
theorem gx_callT {e2 : Expr} {m1 m2 : Mi Val} (F : FnOk X.prog X.w X.K X.mg X.base CX k f fd ps (spG C 2 mf)) (hr : Room k X.A) (hg : Gl X x) (hm : X.mg x = some (.ref f)) (hk : PySem.W.keepIn X.K (.ref f) = true) (hb : Binds X.K fd ps []) (hx : Passes CX X E)
    (h1 : PE X e (tX C m1)) (h2 : PE X e2 (tX C m2)) (hdb : (x == ("__debug__" : Str)) = false := by decide) (he : starEach [e, e2] X.env = (false, eval e X.env) :: starEach [e2] X.env := by rfl) (he2 : starEach [e2] X.env = (false, eval e2 X.env) :: starEach [] X.env := by rfl) (hpl : (backTo pos (starEach [e2] X.env)).any (·.1) = false := by rfl) :
    PE X (.Call (.Name x p) [e, e2] [] pos) (tX C (mCallT mf m1 m2)) := by
  refine pe_wk (pe_call (dvs := []) F hr hg hm hk hb .nil hx (pa_cons (pe_fz h1) (pa_cons h2 pa_nil he2) he) hdb he hpl) fun σ H Q ⟨B, H0, ρ, v, ρ', sr, em, q⟩ => ?_
  obtain ⟨⟨a, ρ1⟩, g1, em⟩ := Option.bind_eq_some_iff.mp em
  obtain ⟨⟨b, ρ2⟩, g2, em⟩ := Option.bind_eq_some_iff.mp em
  cases b with
  | d _ => cases em
  | b _ => cases em
  | fr o =>
    obtain ⟨_, g3, em⟩ := Option.bind_eq_some_iff.mp em
    obtain ⟨ρ0, g4, em⟩ := Option.bind_eq_some_iff.mp em
    obtain ⟨⟨r, q1⟩, g5, em⟩ := Option.bind_eq_some_iff.mp em
    cases r with
    | dt _ => cases em
    | ob _ => cases em
    | pa kk =>
      obtain ⟨_, g6, em⟩ := Option.bind_eq_some_iff.mp em
      obtain ⟨ρ3, g7, em⟩ := Option.bind_eq_some_iff.mp em
      obtain ⟨s3, g8, em⟩ := Option.bind_eq_some_iff.mp em
      obtain ⟨o', g9, em⟩ := Option.map_eq_some_iff.mp em
      cases em
      refine ⟨B, H0, ρ, a, ρ1, sr, g1, fun v1 H1 s1 a1 f1 => ?_⟩
      refine ⟨B, H0, ρ1, .fr o, ρ2, s1, g2, fun p2 H2 s2 f2 => ?_⟩
      have hln : σ.length = ρ2.length := by
        have := s2.len
        rw [List.length_append, List.length_append, List.length_singleton, List.length_singleton] at this
        omega
      have g6' := chk_some g6
      have a1' : AvOk C (σ ++ [some (.ref p2)]) H2 v1 a := by
        cases a with
        | d x => exact R.mono f2 a1
        | b i =>
          show (σ ++ [some (V.ref p2)])[i]? = some (some v1)
          have a1 : σ[i]? = some (some v1) := a1
          rw [List.getElem?_append_left (List.getElem?_eq_some_iff.mp a1).1]
          exact a1
      show spG C 2 mf ([v1, .ref p2] ++ []) H2 Q E
      rw [List.append_nil]
      have lastσ : (σ ++ [some (V.ref p2)])[ρ2.length]? = some (some (.ref p2)) := by
        rw [List.getElem?_append_right (by omega), hln, Nat.sub_self]
        rfl
      refine call_core (v := .b ρ2.length) (ρ2 := ρ3) s2 (.cons a1' (.cons (a := .b ρ2.length) lastσ .nil)) (chk_some g3) g4 rfl g5 ?_ g7 ?_
      · show ((bors [a, .b ρ2.length])[kk]?).map Val.b = _
        rw [g6']
        rfl
      · intro v3 H3 s3' ev f3
        rw [lastσ] at ev
        cases ev
        have e3 := take_put s3' hln g8
        have ff := f1.trans (f2.trans f3)
        rw [e3] at s3'
        -- the last slot holds an object of its own
        have key : s3 = .own o' := by
          obtain ⟨_, _, c3⟩ := backA_at g7 (chk_some g3)
          obtain ⟨k', o'', _, c4⟩ := c3 1 ρ2.length (.own o) rfl (by rw [List.getElem?_append_right (Nat.le_refl _), Nat.sub_self]; rfl)
          rw [g8] at c4
          cases c4
          cases g9
          rfl
        rw [key] at s3'
        exact q p2 H3 s3' ff
end
end G
/-! comprehensions -/
namespace G
open PySem PyProof.Rows L2 HD
def wipeE (ρ : Env) : List Nat → Env
  | [] => ρ
  | v :: vs => (wipeE ρ vs).set v .non
theorem wipeE_len (ρ : Env) : ∀ vs : List Nat, (wipeE ρ vs).length = ρ.length
  | [] => rfl
  | v :: vs => by rw [wipeE, List.length_set, wipeE_len ρ vs]
theorem wipeE_out {ρ : Env} {i : Nat} : ∀ {vs : List Nat}, i ∉ vs → (wipeE ρ vs)[i]? = ρ[i]?
  | [], _ => rfl
  | v :: vs, h => by
    rw [List.mem_cons, not_or] at h
    rw [wipeE, List.getElem?_set_ne (fun z => h.1 z.symm)]
    exact wipeE_out h.2
theorem wipeE_in {ρ : Env} {i : Nat} : ∀ {vs : List Nat}, i ∈ vs → i < ρ.length → (wipeE ρ vs)[i]? = some .non
  | v :: vs, h, hl => by
    rw [wipeE]
    by_cases e : v = i
    · subst e
      rw [List.getElem?_set_self (by rw [wipeE_len]; exact hl)]
    · rw [List.getElem?_set_ne e]
      rcases List.mem_cons.mp h with z | z
      · exact absurd z.symm e
      · exact wipeE_in z hl
theorem wipe_in {σ : L2.St} {i : Nat} : ∀ {vs : List Nat}, i ∈ vs → i < σ.length → (wipe σ vs)[i]? = some none
  | v :: vs, h, hl => by
    rw [wipe]
    by_cases e : v = i
    · subst e
      rw [List.getElem?_set_self (by rw [wipe_length]; exact hl)]
    · rw [List.getElem?_set_ne e]
      rcases List.mem_cons.mp h with z | z
      · exact absurd z.symm e
      · exact wipe_in z hl
theorem wipe_out' {σ : L2.St} {i : Nat} : ∀ {vs : List Nat}, i ∉ vs → (wipe σ vs)[i]? = σ[i]?
  | [], _ => rfl
  | v :: vs, h => by
    rw [List.mem_cons, not_or] at h
    rw [wipe, List.getElem?_set_ne (fun z => h.1 z.symm)]
    exact wipe_out' h.2
/-- two lists of slots that differ at vs alone -/
theorem wipe_eq {σ σ2 : L2.St} {vs : List Nat} (hl : σ2.length = σ.length) (h : ∀ i, i ∉ vs → σ2[i]? = σ[i]?) : wipe σ2 vs = wipe σ vs := by
  refine List.ext_getElem? fun i => ?_
  by_cases hi : i ∈ vs
  · by_cases hlt : i < σ.length
    · rw [wipe_in hi hlt, wipe_in hi (by omega)]
    · rw [List.getElem?_eq_none (by rw [wipe_length]; omega), List.getElem?_eq_none (by rw [wipe_length]; omega)]
  · rw [wipe_out' hi, wipe_out' hi, h i hi]
theorem wipe_wipe {σ : L2.St} {vs vs1 : List Nat} (h : ∀ i ∈ vs1, i ∈ vs) : wipe (wipe σ vs1) vs = wipe σ vs := wipe_eq (wipe_length _ _) fun i hi => wipe_out' fun z => hi (h i z)
theorem wipeE_wipeE {ρ : Env} {vs vs1 : List Nat} (h : ∀ i ∈ vs1, i ∈ vs) : wipeE (wipeE ρ vs1) vs = wipeE ρ vs := by
  refine List.ext_getElem? fun i => ?_
  by_cases hi : i ∈ vs
  · by_cases hlt : i < ρ.length
    · rw [wipeE_in hi hlt, wipeE_in hi (by rw [wipeE_len]; exact hlt)]
    · rw [List.getElem?_eq_none (by rw [wipeE_len, wipeE_len]; omega), List.getElem?_eq_none (by rw [wipeE_len]; omega)]
  · rw [wipeE_out hi, wipeE_out hi, wipeE_out fun z => hi (h i z)]
/-- the block's slots as they were -/
def restE (ρ1 ρf : Env) : List Nat → Option Env
  | [] => some ρf
  | v :: vs => (restE ρ1 ρf vs).bind fun r => match ρ1[v]? with
    | some (.dat d) => some (r.set v (.dat d))
    | some .non => some (r.set v .non)
    | _ => none
section
variable {C : Program × World} {B : List (Addr × List Addr)} {H0 H H1 : Hp} {σ : L2.St} {ρ ρ1 ρf : Env}
theorem SR.wipe (h : SR C B H0 σ H ρ) : ∀ vs : List Nat, SR C B H0 (L2.wipe σ vs) H (wipeE ρ vs)
  | [] => h
  | v :: vs => (SR.wipe h vs).setNon
theorem set_app {α : Type} (l : List α) (x y : α) {v : Nat} (h : v < l.length) : (l ++ [x]).set v y = l.set v y ++ [x] := by
  rw [List.set_append_left _ _ h]
theorem wipe_app {σ : L2.St} {x : Option V} : ∀ {vs : List Nat}, (∀ v ∈ vs, v < σ.length) → L2.wipe (σ ++ [x]) vs = L2.wipe σ vs ++ [x]
  | [], _ => rfl
  | v :: vs, h => by
    rw [L2.wipe, L2.wipe, wipe_app fun u hu => h u (List.mem_cons_of_mem _ hu), set_app _ _ _ (by rw [wipe_length]; exact h v (List.mem_cons_self ..))]
theorem wipeE_app {ρ : Env} {x : Sl} : ∀ {vs : List Nat}, (∀ v ∈ vs, v < ρ.length) → wipeE (ρ ++ [x]) vs = wipeE ρ vs ++ [x]
  | [], _ => rfl
  | v :: vs, h => by
    rw [wipeE, wipeE, wipeE_app fun u hu => h u (List.mem_cons_of_mem _ hu), set_app _ _ _ (by rw [wipeE_len]; exact h v (List.mem_cons_self ..))]
theorem SR.wipe1 {x : Option V} {s : Sl} (h : SR C B H0 (σ ++ [x]) H (ρ ++ [s])) {vs : List Nat} (hv : ∀ v ∈ vs, v < ρ.length) : SR C B H0 (L2.wipe σ vs ++ [x]) H (wipeE ρ vs ++ [s]) := by
  have hl := h.len
  rw [List.length_append, List.length_append, List.length_singleton, List.length_singleton] at hl
  have := SR.wipe h vs
  rw [wipe_app fun v hv' => by have := hv v hv'; omega, wipeE_app hv] at this
  exact this
theorem restE_at : ∀ {vs : List Nat} {r : Env}, restE ρ1 ρf vs = some r → r.length = ρf.length ∧ ∀ (i : Nat) (s : Sl), r[i]? = some s → (i ∈ vs ∧ ρ1[i]? = some s ∧ s.ob = none) ∨ (i ∉ vs ∧ ρf[i]? = some s)
  | [], r, e => by
    cases e
    exact ⟨rfl, fun i s h => .inr ⟨by simp, h⟩⟩
  | v :: vs, r, e => by
    obtain ⟨r', e1, e2⟩ := Option.bind_eq_some_iff.mp (show ((restE ρ1 ρf vs).bind fun r => match ρ1[v]? with
    | some (.dat d) => some (r.set v (.dat d))
    | some .non => some (r.set v .non)
    | _ => none) = some r from e)
    obtain ⟨h1, h2⟩ := restE_at e1
    have go : ∀ (t : Sl), ρ1[v]? = some t → t.ob = none → r = r'.set v t → r.length = ρf.length ∧ ∀ (i : Nat) (s : Sl), r[i]? = some s → (i ∈ v :: vs ∧ ρ1[i]? = some s ∧ s.ob = none) ∨ (i ∉ v :: vs ∧ ρf[i]? = some s) := fun t ht hb er => by
      subst er
      refine ⟨by rw [List.length_set]; exact h1, fun i s h => ?_⟩
      rw [List.getElem?_set] at h
      by_cases hi : v = i
      · rw [if_pos hi] at h
        split at h
        · cases h
          exact .inl ⟨by rw [hi]; simp, by rw [← hi]; exact ht, hb⟩
        · cases h
      · rw [if_neg hi] at h
        rcases h2 i s h with ⟨a, b, c⟩ | ⟨a, b⟩
        · exact .inl ⟨List.mem_cons_of_mem _ a, b, c⟩
        · exact .inr ⟨by rw [List.mem_cons, not_or]; exact ⟨fun z => hi z.symm, a⟩, b⟩
    split at e2
    · next d hd =>
      cases e2
      exact go _ hd rfl rfl
    · next hd =>
      cases e2
      exact go _ hd rfl rfl
    · cases e2
theorem SR.unwipe {x : Option V} {s : Sl} {vs : List Nat} {r : Env} (h1 : SR C B H0 σ H1 ρ1) (f : Fm H1 H) (h : SR C B H0 (L2.wipe σ vs ++ [x]) H (wipeE ρf vs ++ [s])) (e : restE ρ1 ρf vs = some r) : SR C B H0 (σ ++ [x]) H (r ++ [s]) := by
  obtain ⟨e1, e2⟩ := restE_at e
  obtain ⟨F, hF, hd⟩ := h.rep
  obtain ⟨F1, hF1, _⟩ := h1.rep
  have hl := h.len
  rw [List.length_append, List.length_append, List.length_singleton, List.length_singleton, wipe_length, wipeE_len] at hl
  have wl : (L2.wipe σ vs).length = σ.length := wipe_length _ _
  have we : (wipeE ρf vs).length = ρf.length := wipeE_len _ _
  -- a slot of the outcome
  have at_ : ∀ {i : Nat} {t : Sl}, (r ++ [s])[i]? = some t → (i < r.length ∧ i ∈ vs ∧ ρ1[i]? = some t ∧ t.ob = none) ∨ ((wipeE ρf vs ++ [s])[i]? = some t ∧ (σ ++ [x])[i]? = (L2.wipe σ vs ++ [x])[i]?) := fun {i t} y => by
    by_cases hi : i < r.length
    · rw [List.getElem?_append_left hi] at y
      rcases e2 i t y with ⟨a, b, c⟩ | ⟨a, b⟩
      · exact .inl ⟨hi, a, b, c⟩
      · refine .inr ⟨?_, ?_⟩
        · rw [List.getElem?_append_left (by omega), wipeE_out a]
          exact b
        · rw [List.getElem?_append_left (by omega), List.getElem?_append_left (by omega), wipe_out' a]
    · rw [List.getElem?_append_right (by omega)] at y
      refine .inr ⟨?_, ?_⟩
      · rw [List.getElem?_append_right (by omega), we, ← e1]
        exact y
      · rw [List.getElem?_append_right (by omega), List.getElem?_append_right (by omega), wl]
  refine ⟨by simp [e1, hl], h.off, h.grow, h.fm, h.bx, F, fun i t v y z => ?_, fun i j t u ne y z ht hu => ?_⟩
  · rcases at_ y with ⟨hi, a, b, c⟩ | ⟨a, b⟩
    · rw [List.getElem?_append_left (by omega)] at z
      have ok := hF1 i t v b z
      cases t with
      | non => trivial
      | dat d =>
        obtain ⟨w, e3, rr⟩ := ok
        exact ⟨w, e3, rr.mono f⟩
      | own o => cases c
      | par k o => cases c
    · rw [b] at z
      exact hF i t v a z
  · have ob : ∀ {i : Nat} {t : Sl}, (r ++ [s])[i]? = some t → t.ob.isSome = true → (wipeE ρf vs ++ [s])[i]? = some t := fun {i t} y ht => by
      rcases at_ y with ⟨hi, a, b, c⟩ | ⟨a, b⟩
      · rw [c] at ht
        cases ht
      · exact a
    exact hd i j t u ne (ob y ht) (ob z hu) ht hu
end
/-! [el for f in src if tt] -/
def goLc (f : Mt) (tt : Mi Bool) (el : Mi Val) (vs : List Nat) : List PyData → Env → Option (List PyData × Env)
  | [], ρ => some ([], ρ)
  | x :: xs, ρ => (f x (wipeE ρ vs)).bind fun ρ1 => (tt ρ1).bind fun b => if b.1 = true then (fz el b.2).bind fun v => match v.1 with
      | .d d => (goLc f tt el vs xs v.2).map fun r => (d :: r.1, r.2)
      | .b _ => none
    else goLc f tt el vs xs b.2
def lcEnd (ρ1 : Env) (vs : List Nat) (r : List PyData × Env) : Option (Val × Env) := (chk (r.1.length < LIM ∧ ∀ v ∈ vs, v < ρ1.length)).bind fun _ => (restE ρ1 r.2 vs).map fun ρ2 => (.fr (.lst r.1), ρ2)
def mLc (src : Mi (List PyData)) (f : Mt) (tt : Mi Bool) (el : Mi Val) (vs : List Nat) : Mi Val := fun ρ => (src ρ).bind fun s => (goLc f tt el vs s.1 s.2).bind fun r => lcEnd s.2 vs r
def mYes : Mi Bool := fun ρ => some (true, ρ)
section
variable {X : Cx} {C : Program × World}
theorem gpts_nil : PTs X [] (tXT C mYes) := ⟨fun pins s σ H Q I ⟨B, H0, ρ, b, ρ', sr, em, q⟩ => pts_nil.run pins s σ H Q I (by
  cases em
  exact q H sr (Fm.refl H))⟩
theorem goLc_len {f : Mt} {tt : Mi Bool} {el : Mi Val} {vs : List Nat} {n : Nat} : True := trivial
/-- what stands at turn i: the new list with what has come -/
structure LcSt (C : Program × World) (B : List (Addr × List Addr)) (H0 H1 : Hp) (σ : L2.St) (vs : List Nat) (n : Nat) (D : Addr) (H : Hp) (ρ : Env) (acc : List PyData) : Prop where
  fm : Fm H1 H
  len : ρ.length = n
  sr : SR C B H0 (L2.wipe σ vs ++ [some (.ref D)]) H (wipeE ρ vs ++ [.own (.lst acc)])
/-- one element more -/
theorem lc_app {B : List (Addr × List Addr)} {H0 H : Hp} {σ : L2.St} {ρ : Env} {D : Addr} {acc : List PyData} {y : V} {d : PyData} (s : SR C B H0 (σ ++ [some (.ref D)]) H (ρ ++ [.own (.lst acc)])) (r : R C H y d) (hl : acc.length < LIM) :
    ∃ ws, H D = some (.lst ws) ∧ ws.length < sizeLine ∧ SR C B H0 (σ ++ [some (.ref D)]) (upd H D (.lst (ws ++ [y]))) (ρ ++ [.own (.lst (acc ++ [d]))]) ∧ Fm H (upd H D (.lst (ws ++ [y]))) := by
  have hl' := s.len
  rw [List.length_append, List.length_append, List.length_singleton, List.length_singleton] at hl'
  have last : (ρ ++ [Sl.own (.lst acc)])[ρ.length]? = some (.own (.lst acc)) := by rw [List.getElem?_append_right (Nat.le_refl _), Nat.sub_self]; rfl
  have lastV : (σ ++ [some (V.ref D)])[ρ.length]? = some (some (.ref D)) := by rw [List.getElem?_append_right (by omega), show ρ.length - σ.length = 0 by omega]; rfl
  obtain ⟨F, hr⟩ := s.last
  obtain ⟨rfl, ws, h1, h2⟩ := id hr
  have kk : ∀ a, a ∉ [D] → upd H D (.lst (ws ++ [y])) a = H a := fun a ha => upd_ne fun z => ha (by rw [z]; simp)
  have fm : Fm H (upd H D (.lst (ws ++ [y]))) := Fm.but hr kk
  refine ⟨ws, h1, by rw [h2.length]; exact lim_line hl, ?_, fm⟩
  have := s.write (H' := upd H D (.lst (ws ++ [y]))) (o' := .lst (acc ++ [d])) last (.inl rfl) lastV fun F hF => by
    obtain ⟨rfl, ws', h3, h4⟩ := hF
    exact ⟨kk, rfl, _, upd_same, (h2.append (.cons r .nil)).mono fm⟩
  have e : (ρ ++ [Sl.own (.lst acc)]).set ρ.length (.own (.lst (acc ++ [d]))) = ρ ++ [.own (.lst (acc ++ [d]))] := by
    rw [List.set_append_right _ _ (Nat.le_refl _), Nat.sub_self]
    rfl
  rw [← e]
  exact this
theorem f_len {f : Mt} {tg : Expr} : True := trivial
/-- one turn of the loop over J, at σ2 with the new list at D -/
theorem lc_turns {K : PySem.W.Frag} {b : Bool} {tv vs : List Nat} {f : Mt} {tt : Mi Bool} {el : Mi Val} {B : List (Addr × List Addr)} {H0 H1 : Hp} {σ : L2.St} {ρ1 : Env} {D : Addr} {xs : List PyData} {J : It} {acc0 all : List PyData} {ρf : Env} {Nx0 : Hp → Prop} {HS : Hp}
    (hv : ∀ v ∈ vs, v < ρ1.length) (htv : ∀ v ∈ tv, v ∈ vs) (wk : Walk (PV C K b) J H1 xs) (hl : all.length < LIM) (st : LcSt C B H0 H1 σ vs ρ1.length D HS ρ1 acc0) {rest : List PyData} (eg : goLc f tt el vs xs ρ1 = some (rest, ρf)) (ea : acc0 ++ rest = all)
    (fin : ∀ H, LcSt C B H0 H1 σ vs ρ1.length D H ρf all → Nx0 H) :
    ∃ W : Nat → Nat → Hp → Prop, (∃ m, W 0 m HS) ∧ ∀ i m H, W i m H → (J.stop i H ∧ Nx0 H) ∨ (J.go i H ∧ ∃ Nx : Hp → Prop, (∀ H', Nx H' → ∃ m', m' < m ∧ W (i + 1) m' H') ∧ ∀ x H', J.yld i H x H' → tG C K b tv f x (L2.wipe σ vs) H' fun σ2 H2 => L2.wipe σ2 vs = L2.wipe σ vs ∧ tXT C tt σ2 H2 fun bb H3 =>
      if bb = true then tM C (fz el) σ2 H3 fun y H4 => ∃ acc, H4 D = some (.lst acc) ∧ acc.length < sizeLine ∧ Nx (upd H4 D (.lst (acc ++ [y]))) else Nx H3) := by
  refine ⟨fun i m H => m = xs.length - i ∧ i ≤ xs.length ∧ ∃ ρ acc rest, LcSt C B H0 H1 σ vs ρ1.length D H ρ acc ∧ goLc f tt el vs (xs.drop i) ρ = some (rest, ρf) ∧ acc ++ rest = all, ⟨xs.length, by simp, Nat.zero_le _, ρ1, acc0, rest, st, eg, ea⟩, ?_⟩
  rintro i m H ⟨rfl, hi, ρ, acc, rest, st, e, ea⟩
  obtain ⟨w1, w2⟩ := wk H st.fm i
  by_cases hlt : i < xs.length
  · obtain ⟨g, y⟩ := w1 xs[i] (List.getElem?_eq_getElem hlt)
    have ed : xs.drop i = xs[i] :: xs.drop (i + 1) := List.drop_eq_getElem_cons hlt
    rw [ed] at e
    unfold goLc at e
    obtain ⟨ρ2, e2, e⟩ := Option.bind_eq_some_iff.mp e
    obtain ⟨⟨bb, ρ3⟩, e3, e⟩ := Option.bind_eq_some_iff.mp e
    refine .inr ⟨g, fun H' => ∃ ρ acc rest, LcSt C B H0 H1 σ vs ρ1.length D H' ρ acc ∧ goLc f tt el vs (xs.drop (i + 1)) ρ = some (rest, ρf) ∧ acc ++ rest = all, fun H' z => ⟨xs.length - (i + 1), by omega, rfl, hlt, z⟩, fun x H' hy => ?_⟩
    obtain ⟨sm, pv⟩ := y x H' hy
    obtain ⟨F, hr, n0, s1⟩ := st.sr.hold
    have bx := st.sr.bx
    have fm0 := st.sr.fm
    have wl := s1.len
    rw [wipe_length, wipeE_len] at wl
    refine ⟨B, holdH F H H0, wipeE ρ vs, xs[i], ρ2, s1.same sm, pv, e2, fun σ2 H2 s2 f2 k2 => ?_⟩
    have wq : L2.wipe σ2 vs = L2.wipe σ vs := by
      have := wipe_eq (vs := vs) (σ := L2.wipe σ vs) k2.1 fun i hi => k2.2 i fun z => hi (htv i z)
      rw [this, wipe_wipe fun i hi => hi]
    have l2 : σ2.length = σ.length := by rw [k2.1, wipe_length]
    have vlt : ∀ {ρ : Env}, σ2.length = ρ.length → ∀ v ∈ vs, v < ρ.length := fun {ρ} h v hv' => by
      have := hv v hv'
      rw [← st.len] at this
      omega
    have fA : Fm H H2 := (Fm.of sm).trans f2
    refine ⟨wq, B, holdH F H H0, ρ2, bb, ρ3, s2, e3, fun H3 s3 f3 => ?_⟩
    have fB := fA.trans f3
    dsimp only at e ⊢
    by_cases hb : bb = true
    · rw [if_pos hb] at e ⊢
      obtain ⟨⟨av, ρ4⟩, e4, e⟩ := Option.bind_eq_some_iff.mp e
      cases av with
      | b j => cases e
      | d d =>
        obtain ⟨⟨rest', ρf'⟩, e5, e⟩ := Option.map_eq_some_iff.mp e
        cases e
        refine ⟨B, holdH F H H0, ρ3, .d d, ρ4, s3, e4, fun yv H4 s4 a4 f4 => ?_⟩
        have fC := fB.trans f4
        have u4 := s4.unhold hr n0 fm0 fC bx
        have hal : acc.length < LIM := by
          have := congrArg List.length ea
          rw [List.length_append, List.length_cons] at this
          omega
        obtain ⟨ws, h1, h2, s5, f5⟩ := lc_app u4 a4 hal
        refine ⟨ws, h1, h2, ρ4, acc ++ [d], rest', ⟨st.fm.trans (fC.trans f5), ?_, ?_⟩, e5, by rw [List.append_assoc]; exact ea⟩
        · rw [← s4.len, l2, wl, st.len]
        · have := s5.wipe1 (vlt s4.len)
          rw [wq] at this
          exact this
    · rw [if_neg hb] at e ⊢
      have u3 := s3.unhold hr n0 fm0 fB bx
      refine ⟨ρ3, acc, rest, ⟨st.fm.trans fB, ?_, ?_⟩, e, ea⟩
      · rw [← s3.len, l2, wl, st.len]
      · have := u3.wipe1 (vlt s3.len)
        rw [wq] at this
        exact this
  · have ei : xs.drop i = [] := List.drop_eq_nil_of_le (by omega)
    rw [ei] at e
    cases e
    rw [List.append_nil] at ea
    subst ea
    exact .inl ⟨w2 (by omega), fin H st⟩
/-- at the start: the new list is empty -/
theorem lc_start {B : List (Addr × List Addr)} {H0 H1 : Hp} {σ : L2.St} {ρ1 : Env} {D : Addr} {vs : List Nat} (s1 : SR C B H0 σ H1 ρ1) (hD : H1 D = none) (hv : ∀ v ∈ vs, v < ρ1.length) : LcSt C B H0 H1 σ vs ρ1.length D (upd H1 D (.lst [])) ρ1 [] :=
  ⟨Fm.of (same_new hD), rfl, (s1.pushNew (u := .lst []) (o := .lst []) hD ⟨rfl, [], upd_same, .nil⟩).wipe1 hv⟩
theorem lc_tlc {K : PySem.W.Frag} {b : Bool} {tv vs : List Nat} {src : Mi (List PyData)} {f : Mt} {tt : Mi Bool} {el : Mi Val} (htv : ∀ v ∈ tv, v ∈ vs) {σ : L2.St} {H : Hp} {Q : VK} (h : tX C (mLc src f tt el vs) σ H Q) : tLc (tI C K b src) (tG C K b tv f) (tXT C tt) (tM C (fz el)) vs σ H Q := by
  obtain ⟨B, H0, ρ, v, ρ', sr, em, q⟩ := h
  obtain ⟨⟨xs, ρ1⟩, h1, em⟩ := Option.bind_eq_some_iff.mp em
  obtain ⟨⟨all, ρf⟩, h2, em⟩ := Option.bind_eq_some_iff.mp em
  obtain ⟨_, h3, em⟩ := Option.bind_eq_some_iff.mp em
  obtain ⟨ρ2, h4, em⟩ := Option.map_eq_some_iff.mp em
  cases em
  obtain ⟨hl, hv⟩ := chk_some h3
  refine ⟨B, H0, ρ, xs, ρ1, sr, h1, fun J H1 s1 f1 wk D hD => ?_⟩
  exact lc_turns hv htv wk hl (lc_start s1 hD hv) h2 (List.nil_append _) fun H2 st => q D H2 (s1.unwipe st.fm st.sr h4) (f1.trans st.fm)
/-! [el for f in src if tt for f1 in src1 if tt1] -/
def goLc2 (f : Mt) (tt : Mi Bool) (src1 : Mi (List PyData)) (f1 : Mt) (tt1 : Mi Bool) (el : Mi Val) (vs vs1 : List Nat) : List PyData → Env → Option (List PyData × Env)
  | [], ρ => some ([], ρ)
  | x :: xs, ρ => (f x (wipeE ρ vs)).bind fun ρ1 => (tt ρ1).bind fun b => if b.1 = true then (src1 b.2).bind fun s => (goLc f1 tt1 el vs1 s.1 s.2).bind fun q => (goLc2 f tt src1 f1 tt1 el vs vs1 xs q.2).map fun r => (q.1 ++ r.1, r.2)
    else goLc2 f tt src1 f1 tt1 el vs vs1 xs b.2
def mLc2 (src : Mi (List PyData)) (f : Mt) (tt : Mi Bool) (src1 : Mi (List PyData)) (f1 : Mt) (tt1 : Mi Bool) (el : Mi Val) (vs vs1 : List Nat) : Mi Val := fun ρ => (src ρ).bind fun s => (goLc2 f tt src1 f1 tt1 el vs vs1 s.1 s.2).bind fun r => (chk (∀ v ∈ vs1, v ∈ vs)).bind fun _ => lcEnd s.2 vs r
theorem lc_tlc2 {K : PySem.W.Frag} {b b1 : Bool} {tv tv1 vs vs1 : List Nat} {src src1 : Mi (List PyData)} {f f1 : Mt} {tt tt1 : Mi Bool} {el : Mi Val} (htv : ∀ v ∈ tv, v ∈ vs) (htv1 : ∀ v ∈ tv1, v ∈ vs1) {σ : L2.St} {H : Hp} {Q : VK} (h : tX C (mLc2 src f tt src1 f1 tt1 el vs vs1) σ H Q) :
    tLc2 (tI C K b src) (tG C K b tv f) (tXT C tt) (tI C K b1 src1) (tG C K b1 tv1 f1) (tXT C tt1) (tM C (fz el)) vs vs1 σ H Q := by
  obtain ⟨B, H0, ρ, v, ρ', sr, em, q⟩ := h
  obtain ⟨⟨xs, ρ1⟩, h1, em⟩ := Option.bind_eq_some_iff.mp em
  obtain ⟨⟨all, ρf⟩, h2, em⟩ := Option.bind_eq_some_iff.mp em
  obtain ⟨_, h0, em⟩ := Option.bind_eq_some_iff.mp em
  obtain ⟨_, h3, em⟩ := Option.bind_eq_some_iff.mp em
  obtain ⟨ρ2, h4, em⟩ := Option.map_eq_some_iff.mp em
  cases em
  obtain ⟨hl, hv⟩ := chk_some h3
  have hv1 := chk_some h0
  refine ⟨B, H0, ρ, xs, ρ1, sr, h1, fun J H1 s1 f1' wk D hD => ?_⟩
  refine ⟨fun i m H => m = xs.length - i ∧ i ≤ xs.length ∧ ∃ ρ acc rest, LcSt C B H0 H1 σ vs ρ1.length D H ρ acc ∧ goLc2 f tt src1 f1 tt1 el vs vs1 (xs.drop i) ρ = some (rest, ρf) ∧ acc ++ rest = all, ⟨xs.length, by simp, Nat.zero_le _, ρ1, [], all, lc_start s1 hD hv, h2, List.nil_append _⟩, ?_⟩
  rintro i m H ⟨rfl, hi, ρ, acc, rest, st, e, ea⟩
  obtain ⟨w1, w2⟩ := wk H st.fm i
  by_cases hlt : i < xs.length
  · obtain ⟨g, y⟩ := w1 xs[i] (List.getElem?_eq_getElem hlt)
    have ed : xs.drop i = xs[i] :: xs.drop (i + 1) := List.drop_eq_getElem_cons hlt
    rw [ed] at e
    unfold goLc2 at e
    obtain ⟨ρ2, e2, e⟩ := Option.bind_eq_some_iff.mp e
    obtain ⟨⟨bb, ρ3⟩, e3, e⟩ := Option.bind_eq_some_iff.mp e
    refine .inr ⟨g, fun H' => ∃ ρ acc rest, LcSt C B H0 H1 σ vs ρ1.length D H' ρ acc ∧ goLc2 f tt src1 f1 tt1 el vs vs1 (xs.drop (i + 1)) ρ = some (rest, ρf) ∧ acc ++ rest = all, fun H' z => ⟨xs.length - (i + 1), by omega, rfl, hlt, z⟩, fun x H' hy => ?_⟩
    obtain ⟨sm, pv⟩ := y x H' hy
    obtain ⟨F, hr, n0, s1'⟩ := st.sr.hold
    have bx := st.sr.bx
    have fm0 := st.sr.fm
    have wl := s1'.len
    rw [wipe_length, wipeE_len] at wl
    refine ⟨B, holdH F H H0, wipeE ρ vs, xs[i], ρ2, s1'.same sm, pv, e2, fun σ2 H2 s2 f2 k2 => ?_⟩
    have wq : L2.wipe σ2 vs = L2.wipe σ vs := by
      have := wipe_eq (vs := vs) (σ := L2.wipe σ vs) k2.1 fun i hi => k2.2 i fun z => hi (htv i z)
      rw [this, wipe_wipe fun i hi => hi]
    have l2 : σ2.length = σ.length := by rw [k2.1, wipe_length]
    have vlt : ∀ {ρ : Env}, σ2.length = ρ.length → ∀ v ∈ vs, v < ρ.length := fun {ρ} h v hv' => by
      have := hv v hv'
      rw [← st.len] at this
      omega
    have fA : Fm H H2 := (Fm.of sm).trans f2
    refine ⟨wq, B, holdH F H H0, ρ2, bb, ρ3, s2, e3, fun H3 s3 f3 => ?_⟩
    have fB := fA.trans f3
    dsimp only at e ⊢
    by_cases hb : bb = true
    · rw [if_pos hb] at e ⊢
      obtain ⟨⟨ys, ρ4⟩, e4, e⟩ := Option.bind_eq_some_iff.mp e
      obtain ⟨⟨part, ρ5⟩, e5, e⟩ := Option.bind_eq_some_iff.mp e
      obtain ⟨⟨rest', ρf'⟩, e6, e⟩ := Option.map_eq_some_iff.mp e
      cases e
      refine ⟨B, holdH F H H0, ρ3, ys, ρ4, s3, e4, fun J1 H4 s4 f4 wk1 => ?_⟩
      have fC := fB.trans f4
      have u4 := s4.unhold hr n0 fm0 fC bx
      have l4 : ρ4.length = ρ1.length := by rw [← s4.len, l2, wl, st.len]
      have pl : (acc ++ part).length < LIM := by
        have := congrArg List.length ea
        rw [List.length_append, List.length_append] at this
        rw [List.length_append]
        have hl : all.length < LIM := hl
        dsimp only at this
        omega
      refine lc_turns (σ := σ2) (ρ1 := ρ4) (vs := vs1) (H1 := H4) (D := D) (acc0 := acc) (all := acc ++ part) (ρf := ρ5) (fun v hv' => vlt s4.len v (hv1 v hv')) htv1 wk1 pl ⟨Fm.refl H4, rfl, u4.wipe1 fun v hv' => vlt s4.len v (hv1 v hv')⟩ e5 rfl fun H5 st5 => ?_
      refine ⟨ρ5, acc ++ part, rest', ⟨st.fm.trans (fC.trans st5.fm), st5.len.trans l4, ?_⟩, e6, by rw [List.append_assoc]; exact ea⟩
      have := st5.sr.wipe1 (vs := vs) fun v hv' => by
        rw [wipeE_len, st5.len, l4]
        exact hv v hv'
      rw [wipe_wipe hv1, wipeE_wipeE hv1, wq] at this
      exact this
    · rw [if_neg hb] at e ⊢
      have u3 := s3.unhold hr n0 fm0 fB bx
      refine ⟨ρ3, acc, rest, ⟨st.fm.trans fB, ?_, ?_⟩, e, ea⟩
      · rw [← s3.len, l2, wl, st.len]
      · have := u3.wipe1 (vlt s3.len)
        rw [wq] at this
        exact this
  · have ei : xs.drop i = [] := List.drop_eq_nil_of_le (by omega)
    rw [ei] at e
    cases e
    rw [List.append_nil] at ea
    subst ea
    exact .inl ⟨w2 (by omega), q D H (s1.unwipe st.fm st.sr h4) (f1'.trans st.fm)⟩
/-! {k: v for f in src if tt}, keys that are numbers or texts -/
def goDc (f : Mt) (tt : Mi Bool) (ke el : Mi Val) (vs : List Nat) : List PyData → List (Key × PyData) → Env → Option (List (Key × PyData) × Env)
  | [], es, ρ => some (es, ρ)
  | x :: xs, es, ρ => (f x (wipeE ρ vs)).bind fun ρ1 => (tt ρ1).bind fun b => if b.1 = true then (fz ke b.2).bind fun kv => (fz el kv.2).bind fun v => match kv.1, v.1 with
      | .d k, .d d => (toK k).bind fun k' => if es.length < LIM then goDc f tt ke el vs xs (putP es k' d) v.2 else none
      | _, _ => none
    else goDc f tt ke el vs xs es b.2
def mDc (src : Mi (List PyData)) (f : Mt) (tt : Mi Bool) (ke el : Mi Val) (vs : List Nat) : Mi Val := fun ρ => (src ρ).bind fun s => (goDc f tt ke el vs s.1 [] s.2).bind fun r => (chk (∀ v ∈ vs, v < s.2.length)).bind fun _ => (restE s.2 r.2 vs).map fun ρ2 => (.fr (.dK r.1), ρ2)
theorem dc_tdc {K : PySem.W.Frag} {b : Bool} {tv vs : List Nat} {src : Mi (List PyData)} {f : Mt} {tt : Mi Bool} {ke el : Mi Val} (htv : ∀ v ∈ tv, v ∈ vs) {σ : L2.St} {H : Hp} {Q : VK} (h : tX C (mDc src f tt ke el vs) σ H Q) : tDc (tI C K b src) (tG C K b tv f) (tXT C tt) (tM C (fz ke)) (tM C (fz el)) vs σ H Q := by
  obtain ⟨B, H0, ρ, v, ρ', sr, em, q⟩ := h
  obtain ⟨⟨xs, ρ1⟩, h1, em⟩ := Option.bind_eq_some_iff.mp em
  obtain ⟨⟨all, ρf⟩, h2, em⟩ := Option.bind_eq_some_iff.mp em
  obtain ⟨_, h3, em⟩ := Option.bind_eq_some_iff.mp em
  obtain ⟨ρ2, h4, em⟩ := Option.map_eq_some_iff.mp em
  cases em
  have hv := chk_some h3
  refine ⟨B, H0, ρ, xs, ρ1, sr, h1, fun J H1 s1 f1 wk D hD => ?_⟩
  refine ⟨fun i m H => m = xs.length - i ∧ i ≤ xs.length ∧ ∃ ρ es, Fm H1 H ∧ ρ.length = ρ1.length ∧ SR C B H0 (L2.wipe σ vs ++ [some (.ref D)]) H (wipeE ρ vs ++ [.own (.dK es)]) ∧ goDc f tt ke el vs (xs.drop i) es ρ = some (all, ρf), ⟨xs.length, by simp, Nat.zero_le _, ρ1, [], Fm.of (same_new hD), rfl, (s1.pushNew (u := .dK []) (o := .dK []) hD ⟨rfl, [], upd_same, .nil⟩).wipe1 hv, h2⟩, ?_⟩
  rintro i m H ⟨rfl, hi, ρ, es, fmH, lenH, srH, e⟩
  obtain ⟨w1, w2⟩ := wk H fmH i
  by_cases hlt : i < xs.length
  · obtain ⟨g, y⟩ := w1 xs[i] (List.getElem?_eq_getElem hlt)
    have ed : xs.drop i = xs[i] :: xs.drop (i + 1) := List.drop_eq_getElem_cons hlt
    rw [ed] at e
    unfold goDc at e
    obtain ⟨ρ2, e2, e⟩ := Option.bind_eq_some_iff.mp e
    obtain ⟨⟨bb, ρ3⟩, e3, e⟩ := Option.bind_eq_some_iff.mp e
    refine .inr ⟨g, fun H' => ∃ ρ es, Fm H1 H' ∧ ρ.length = ρ1.length ∧ SR C B H0 (L2.wipe σ vs ++ [some (.ref D)]) H' (wipeE ρ vs ++ [.own (.dK es)]) ∧ goDc f tt ke el vs (xs.drop (i + 1)) es ρ = some (all, ρf), fun H' z => ⟨xs.length - (i + 1), by omega, rfl, hlt, z⟩, fun x H' hy => ?_⟩
    obtain ⟨sm, pv⟩ := y x H' hy
    obtain ⟨F, hr, n0, s1'⟩ := srH.hold
    have bx := srH.bx
    have fm0 := srH.fm
    have wl := s1'.len
    rw [wipe_length, wipeE_len] at wl
    refine ⟨B, holdH F H H0, wipeE ρ vs, xs[i], ρ2, s1'.same sm, pv, e2, fun σ2 H2 s2 f2 k2 => ?_⟩
    have wq : L2.wipe σ2 vs = L2.wipe σ vs := by
      have := wipe_eq (vs := vs) (σ := L2.wipe σ vs) k2.1 fun i hi => k2.2 i fun z => hi (htv i z)
      rw [this, wipe_wipe fun i hi => hi]
    have l2 : σ2.length = σ.length := by rw [k2.1, wipe_length]
    have vlt : ∀ {ρ : Env}, σ2.length = ρ.length → ∀ v ∈ vs, v < ρ.length := fun {ρ} h v hv' => by
      have : v < ρ1.length := hv v hv'
      omega
    have fA : Fm H H2 := (Fm.of sm).trans f2
    refine ⟨wq, B, holdH F H H0, ρ2, bb, ρ3, s2, e3, fun H3 s3 f3 => ?_⟩
    have fB := fA.trans f3
    dsimp only at e ⊢
    by_cases hb : bb = true
    · rw [if_pos hb] at e ⊢
      obtain ⟨⟨kv, ρ4⟩, e4, e⟩ := Option.bind_eq_some_iff.mp e
      obtain ⟨⟨av, ρ5⟩, e5, e⟩ := Option.bind_eq_some_iff.mp e
      cases kv with
      | b j => cases e
      | d k => cases av with
        | b j => cases e
        | d d =>
          obtain ⟨k', e6, e⟩ := Option.bind_eq_some_iff.mp e
          split at e
          · next hle =>
            refine ⟨B, holdH F H H0, ρ3, .d k, ρ4, s3, e4, fun kvv H4 s4 a4 f4 => ?_⟩
            refine ⟨B, holdH F H H0, ρ4, .d d, ρ5, s4, e5, fun yv H5 s5 a5 f5 => ?_⟩
            have fC := fB.trans (f4.trans f5)
            have u5 := s5.unhold hr n0 fm0 fC bx
            obtain ⟨F5, hr5⟩ := u5.last
            obtain ⟨rfl, kvs, h6, h7⟩ := id hr5
            rw [kD_toK e6] at a4
            have a4 : R C H4 kvv (kD k') := a4
            have kk : ∀ a, a ∉ [D] → upd H5 D (.dK (putK kvs k' yv)) a = H5 a := fun a ha => upd_ne fun z => ha (by rw [z]; simp)
            have fm5 : Fm H5 (upd H5 D (.dK (putK kvs k' yv))) := Fm.but hr5 kk
            have l5 : ρ5.length = ρ1.length := by rw [← s5.len, l2, wl, lenH]
            have last : (ρ5 ++ [Sl.own (.dK es)])[ρ5.length]? = some (.own (.dK es)) := by rw [List.getElem?_append_right (Nat.le_refl _), Nat.sub_self]; rfl
            have lastV : (σ2 ++ [some (V.ref D)])[ρ5.length]? = some (some (.ref D)) := by rw [List.getElem?_append_right (by rw [s5.len]; omega), show ρ5.length - σ2.length = 0 by rw [s5.len]; omega]; rfl
            have u6 := u5.write (H' := upd H5 D (.dK (putK kvs k' yv))) (o' := .dK (putP es k' d)) last (.inl rfl) lastV fun F hF => by
              obtain ⟨rfl, ws', h8, h9⟩ := hF
              exact ⟨kk, rfl, _, upd_same, (h7.put a5).mono fm5⟩
            have es6 : (ρ5 ++ [Sl.own (.dK es)]).set ρ5.length (.own (.dK (putP es k' d))) = ρ5 ++ [.own (.dK (putP es k' d))] := by
              rw [List.set_append_right _ _ (Nat.le_refl _), Nat.sub_self]
              rfl
            have u6 : SR C B H0 (σ2 ++ [some (.ref D)]) (upd H5 D (.dK (putK kvs k' yv))) (ρ5 ++ [.own (.dK (putP es k' d))]) := by
              rw [← es6]
              exact u6
            refine ⟨kvs, k', R.kV a4, h6, by rw [h7.length]; exact lim_line hle, ρ5, putP es k' d, fmH.trans (fC.trans fm5), l5, ?_, e⟩
            have := u6.wipe1 (vlt s5.len)
            rw [wq] at this
            exact this
          · cases e
    · rw [if_neg hb] at e ⊢
      have u3 := s3.unhold hr n0 fm0 fB bx
      refine ⟨ρ3, es, fmH.trans fB, ?_, ?_, e⟩
      · rw [← s3.len, l2, wl, lenH]
      · have := u3.wipe1 (vlt s3.len)
        rw [wq] at this
        exact this
  · have ei : xs.drop i = [] := List.drop_eq_nil_of_le (by omega)
    rw [ei] at e
    cases e
    exact .inl ⟨w2 (by omega), q D H (s1.unwipe fmH srH h4) (f1.trans fmH)⟩
end
section
variable {X : Cx} {C : Program × World} {elt tg iter tg1 iter1 kx vx : Expr} {ifs ifs1 : List Expr} {scope : Scope} {own : List (Str × Nat)} {pos : Pos} {b b1 : Bool} {tv tv1 vs1 : List Nat} {src src1 : Mi (List PyData)} {f f1 : Mt} {tt tt1 : Mi Bool} {ke el : Mi Val}
theorem gpts_one {c : Expr} {t : Mi Bool} (h : PT X c (tXT C t)) : PTs X [c] (tXT C t) := pts_one h
theorem gx_lc (hc : X.calm = true) (hN : X.N.Nodup) (hi : PI X tg iter (tI C X.K b src)) (ok : BlkOk X.N X.env.scope scope own)
    (hg : ∀ (s : Shared) (H : Hp) (Cl : Addr) (cl : List (Str × Addr)) (fp : List Addr), PG (X.blk s H scope (compEnvC scope cl Cl X.env) fp) tg (tG C X.K b tv f)) (ht : ∀ (s : Shared) (H : Hp) (Cl : Addr) (cl : List (Str × Addr)) (fp : List Addr), PTs (X.blk s H scope (compEnvC scope cl Cl X.env) fp) ifs (tXT C tt))
    (he : ∀ (s : Shared) (H : Hp) (Cl : Addr) (cl : List (Str × Addr)) (fp : List Addr), PE (X.blk s H scope (compEnvC scope cl Cl X.env) fp) elt (tX C el)) (htv : ∀ v ∈ tv, v ∈ own.map (·.2) := by decide) (hs : ∀ x, foldedSetIterable iter X.env x = pure x := by intro _; rfl) :
    PE X (.ListComp elt [⟨tg, iter, ifs, 0⟩] scope pos) (tX C (mLc src f tt el (own.map (·.2)))) :=
  pe_wk (pe_lc hc hN hi ok hg ht (fun s H c cl fp => pe_fz (he s H c cl fp)) hs) fun σ H Q h => lc_tlc htv h
theorem gx_lc2 (hc : X.calm = true) (hN : X.N.Nodup) (hi : PI X tg iter (tI C X.K b src)) (ok : BlkOk X.N X.env.scope scope own) (hv : ∀ i ∈ vs1, i ∈ own.map (·.2))
    (hg : ∀ (s : Shared) (H : Hp) (Cl : Addr) (cl : List (Str × Addr)) (fp : List Addr), PG (X.blk s H scope (compEnvC scope cl Cl X.env) fp) tg (tG C X.K b tv f)) (ht : ∀ (s : Shared) (H : Hp) (Cl : Addr) (cl : List (Str × Addr)) (fp : List Addr), PTs (X.blk s H scope (compEnvC scope cl Cl X.env) fp) ifs (tXT C tt))
    (hi1 : ∀ (s : Shared) (H : Hp) (Cl : Addr) (cl : List (Str × Addr)) (fp : List Addr), PI (X.blk s H scope (compEnvC scope cl Cl X.env) fp) tg1 iter1 (tI C X.K b1 src1))
    (hg1 : ∀ (s : Shared) (H : Hp) (Cl : Addr) (cl : List (Str × Addr)) (fp : List Addr), PG (X.blk s H scope (compEnvC scope cl Cl X.env) fp) tg1 (tG C X.K b1 tv1 f1)) (ht1 : ∀ (s : Shared) (H : Hp) (Cl : Addr) (cl : List (Str × Addr)) (fp : List Addr), PTs (X.blk s H scope (compEnvC scope cl Cl X.env) fp) ifs1 (tXT C tt1))
    (he : ∀ (s : Shared) (H : Hp) (Cl : Addr) (cl : List (Str × Addr)) (fp : List Addr), PE (X.blk s H scope (compEnvC scope cl Cl X.env) fp) elt (tX C el)) (htv : ∀ v ∈ tv, v ∈ own.map (·.2) := by decide) (htv1 : ∀ v ∈ tv1, v ∈ vs1 := by decide) (hs : ∀ x, foldedSetIterable iter X.env x = pure x := by intro _; rfl) (hs1 : ∀ env x, foldedSetIterable iter1 env x = pure x := by intro _ _; rfl) :
    PE X (.ListComp elt [⟨tg, iter, ifs, 0⟩, ⟨tg1, iter1, ifs1, 0⟩] scope pos) (tX C (mLc2 src f tt src1 f1 tt1 el (own.map (·.2)) vs1)) :=
  pe_wk (pe_lc2 hc hN hi ok hv hg ht hi1 hg1 ht1 (fun s H c cl fp => pe_fz (he s H c cl fp)) hs hs1) fun σ H Q h => lc_tlc2 htv htv1 h
theorem gx_dc (hc : X.calm = true) (hN : X.N.Nodup) (hi : PI X tg iter (tI C X.K b src)) (ok : BlkOk X.N X.env.scope scope own)
    (hg : ∀ (s : Shared) (H : Hp) (Cl : Addr) (cl : List (Str × Addr)) (fp : List Addr), PG (X.blk s H scope (compEnvC scope cl Cl X.env) fp) tg (tG C X.K b tv f)) (ht : ∀ (s : Shared) (H : Hp) (Cl : Addr) (cl : List (Str × Addr)) (fp : List Addr), PTs (X.blk s H scope (compEnvC scope cl Cl X.env) fp) ifs (tXT C tt))
    (hk : ∀ (s : Shared) (H : Hp) (Cl : Addr) (cl : List (Str × Addr)) (fp : List Addr), PE (X.blk s H scope (compEnvC scope cl Cl X.env) fp) kx (tX C ke)) (he : ∀ (s : Shared) (H : Hp) (Cl : Addr) (cl : List (Str × Addr)) (fp : List Addr), PE (X.blk s H scope (compEnvC scope cl Cl X.env) fp) vx (tX C el))
    (htv : ∀ v ∈ tv, v ∈ own.map (·.2) := by decide) (hs : ∀ x, foldedSetIterable iter X.env x = pure x := by intro _; rfl) :
    PE X (.DictComp kx vx [⟨tg, iter, ifs, 0⟩] scope pos) (tX C (mDc src f tt ke el (own.map (·.2)))) :=
  pe_wk (pe_dc hc hN hi ok hg ht (fun s H c cl fp => pe_fz (hk s H c cl fp)) (fun s H c cl fp => pe_fz (he s H c cl fp)) hs) fun σ H Q h => dc_tdc htv h
/-- name = [..] on one line -/
theorem gs_setLc {i : Nat} {y : Str} {py : Pos} {spos : Pos} (hc : X.calm = true) (hN : X.N.Nodup) (hy : X.N[i]? = some y) (hyl : X.env.scope.names.lookup y = some .local)
    (hsw : swapsWith (.ListComp elt [⟨tg, iter, ifs, 0⟩] scope pos) (some (.Name y py)) spos.line X.env = pure true) (hi : PI X tg iter (tI C X.K b src)) (ok : BlkOk X.N X.env.scope scope own)
    (hg : ∀ (s : Shared) (H : Hp) (Cl : Addr) (cl : List (Str × Addr)) (fp : List Addr), PG (X.blk s H scope (compEnvC scope cl Cl X.env) fp) tg (tG C X.K b tv f)) (ht : ∀ (s : Shared) (H : Hp) (Cl : Addr) (cl : List (Str × Addr)) (fp : List Addr), PTs (X.blk s H scope (compEnvC scope cl Cl X.env) fp) ifs (tXT C tt))
    (he : ∀ (s : Shared) (H : Hp) (Cl : Addr) (cl : List (Str × Addr)) (fp : List Addr), PE (X.blk s H scope (compEnvC scope cl Cl X.env) fp) elt (tX C el)) (htv : ∀ v ∈ tv, v ∈ own.map (·.2) := by decide) (hs : ∀ x, foldedSetIterable iter X.env x = pure x := by intro _; rfl) :
    PS X (.Assign [.Name y py] (.ListComp elt [⟨tg, iter, ifs, 0⟩] scope pos) spos) (tS C (mSetO i (mLc src f tt el (own.map (·.2))))) :=
  ps_wk (ps_setLc hc hN hy hyl hsw hi ok hg ht (fun s H c cl fp => pe_fz (he s H c cl fp)) hs) fun D σ H h => by
    have h := setO_of h
    exact lc_tlc htv h
end
end G
/-! the operations on data -/
namespace G
open PySem PyProof.Rows L2 HD
theorem OpR.or {X : Cx} {f : Value → Value → Sem Value} {r r' : R2} (h : OpR X f r) (h' : OpR X f r') : OpR X f (fun x y H Q => r x y H Q ∨ r' x y H Q) := by
  intro pins s σ H x y v u Q I rx ry q
  rcases q with q | q
  · exact h pins s σ H x y v u Q I rx ry q
  · exact h' pins s σ H x y v u Q I rx ry q
section
variable {X : Cx} {C : Program × World} {K : PySem.W.Frag} {H : Hp}
/-- list + list, read -/
def rCatL : R2 := fun x y H Q => ∃ l b xs zs, x = .ref l ∧ y = .ref b ∧ Rd H l (.lst xs) ∧ Rd H b (.lst zs) ∧ xs.length + zs.length ≤ sizeLine ∧ ∀ p, H p = none → Q (.ref p) (upd H p (.lst (xs ++ zs)))
theorem op_catL : OpR X (binaryOp .Add) rCatL := by
  intro pins s σ H x y v u Q I rx ry h
  obtain ⟨l, b, xs, zs, rfl, rfl, hH, hB, hz, q⟩ := h
  cases rx
  cases ry
  obtain ⟨z, its, n, r, e⟩ := hH.ok I.hok
  obtain ⟨z2, its2, n2, r2, e2⟩ := hB.ok I.hok
  have hl := r.length
  have hl2 := r2.length
  refine PySem.P.add_list e e2 ?_ (by rw [List.size_toArray, List.size_toArray]; omega)
  have ea : its.toArray ++ its2.toArray = (its ++ its2).toArray := by simp
  rw [ea]
  exact ⟨.ref _, _, I.lnew (t' := s.toks) (r.append r2) (by rw [List.length_append]; omega), rfl, q _ I.fresh⟩
/-- tuple + tuple, known -/
def rCatF (K : PySem.W.Frag) : R2 := fun x y H Q => ∃ a b xs ys, x = .ref a ∧ y = .ref b ∧ SqT K H a xs ∧ SqT K H b ys ∧ xs.length + ys.length ≤ sizeLine ∧
  (xs = [] → Q (.ref b) H) ∧ (xs ≠ [] → ys = [] → Q (.ref a) H) ∧ (xs ≠ [] → ys ≠ [] → ∀ p (o : Obj), H p = none → o.cls = .type "tuple" → o.dict = none → Q (.ref p) (upd H p (.frz o (.tup (xs ++ ys)))))
theorem op_catF : OpR X (binaryOp .Add) (rCatF X.K) := by
  intro pins s σ H x y v u Q I rx ry h
  obtain ⟨a, b, xs, ys, rfl, rfl, ha, hb, hz, q0, q1, q2⟩ := h
  cases rx
  cases ry
  obtain ⟨its, r1, p1, _⟩ := I.tuple ha
  obtain ⟨its2, r2, p2, _⟩ := I.tuple hb
  by_cases hx : xs = []
  · subst hx
    cases r1
    exact cat_tup0 p1 p2 ⟨.ref b, H, I, rfl, q0 rfl⟩
  · have hne : its ≠ [] := fun z => hx ((Vals.nil_iff r1).mp z)
    have hl1 := r1.length
    have hl2 := r2.length
    refine HT.cat_tup (vs := its) (ws := its2) p1 p2 hne (fun hw => ?_) (fun hw => ?_) (by omega)
    · exact ⟨.ref a, H, I, rfl, q1 hx ((Vals.nil_iff r2).mp hw)⟩
    · have hy : ys ≠ [] := fun z => hw ((Vals.nil_iff r2).mpr z)
      refine ⟨.ref s.heap.objs.size, _, I.laid (t' := s.toks) (o := .frz _ (.tup (xs ++ ys))) (fun b ob q => Heap.get?_push_of_some _ q) (Nat.le_refl _) ⟨Heap.get?_push_size _ rfl, by rw [List.length_append]; exact hz, _, r1.append r2, IsTup.new _ _⟩, rfl, q2 hx hy _ _ (I.hok.fresh (Nat.le_refl _)) rfl rfl⟩
/-- list * int -/
def rRepL : R2 := fun x y H Q => ∃ l k xs, x = .ref l ∧ y = .int k ∧ Rd H l (.lst xs) ∧ -(2 ^ 63) ≤ k ∧ k < 2 ^ 63 ∧ xs.length * k.toNat ≤ sizeLine ∧ ∀ p, H p = none → Q (.ref p) (upd H p (.lst (List.replicate k.toNat xs).flatten))
theorem op_repL : OpR X (binaryOp .Mult) rRepL := by
  intro pins s σ H x y v u Q I rx ry h
  obtain ⟨l, k, xs, rfl, rfl, hH, h1, h2, hz, q⟩ := h
  cases rx
  obtain ⟨t, rfl⟩ := ry
  obtain ⟨z, its, n, r, e⟩ := hH.ok I.hok
  have hl := r.length
  have hlen : its.toArray.size * k.toNat ≤ sizeLine := by rw [List.size_toArray, ← hl]; exact hz
  have hcap : ¬ its.toArray.size * k.toNat > (2 ^ 63 - 1) / 8 := by
    have : (sizeLine : Nat) ≤ (2 ^ 63 - 1) / 8 := by decide
    omega
  have hfit : ¬ (!Builtin.List.listFitsIndex k) = true := by
    rw [fitsIndex_both h1 h2]
    exact Bool.false_ne_true
  have hlong : ¬ Builtin.List.listTooLong (its.toArray.size * k.toNat) = true := by
    rw [notLongL hlen]
    exact Bool.false_ne_true
  have hnew : List.foldl (fun x1 x2 => x1 ++ x2) #[] (List.replicate (if its.toArray.isEmpty = true then 0 else k.toNat) its.toArray) = (List.replicate k.toNat its).flatten.toArray := by
    have f0 : ∀ m : Nat, List.foldl (fun x1 x2 => x1 ++ x2) #[] (List.replicate m its.toArray) = (List.replicate m its).flatten.toArray := fun m => by
      have := foldl_rep its m []
      rw [List.nil_append] at this
      exact this
    rw [f0]
    cases its with
    | nil => simp
    | cons a r' => rw [if_neg (by simp)]
  refine wpAny_binaryOp_repeat_ref (T := "list") (U := "int") (by decide) ⟨_, e, rfl⟩ (fun s' => typeIs_int s' k t) noFill_list_mul PySem.F.fills_int_mul PySem.F.slot_int_rmul repeat_list PySem.F.slot_int_index.lookup
    (call_meets PySem.F.slot_int_rmul (typeIs_int s k t) PySem.F.entry_int_rmul (PySem.F.args_int_rmul_2 _ _) (int___rmul___int_list k t l its.toArray n)
      ⟨e, rfl, ⟨_, e, rfl⟩, call_meets PySem.F.slot_list_mul ⟨_, e, rfl⟩ PySem.F.entry_list_mul (PySem.F.args_list_mul_2 _ _) (AutoListH.list___mul___list_int_3 l its.toArray n k t hfit hcap hlong) ⟨e, ?_⟩⟩)
  rw [hnew]
  exact ⟨.ref _, _, I.lnew (t' := s.toks) (r.rep k.toNat) (by rw [PyProof.Rows.lm_len_rep_flat, Nat.mul_comm]; exact hz), rfl, q _ I.fresh⟩
theorem same0 {v : V} {d : PyData} {Q : VK} (q : ResK C H Q (.d d)) (r : R C H v d) : Q v H := q v H (Same.refl H) r
/-! +, -, *, //, %, **, << -/
def addD : PyData → PyData → Option Res
  | .int i, .int j => some (.d (.int (i + j)))
  | .str x, .str y => if x.length + y.length < LIM then some (.d (.str (x ++ y))) else none
  | .tuple xs, .tuple ys => if xs.length + ys.length < LIM then some (.d (.tuple (xs ++ ys))) else none
  | .list xs, .list ys => if xs.length + ys.length < LIM then some (.l (xs ++ ys)) else none
  | _, _ => none
def rAddG (K : PySem.W.Frag) : R2 := fun x y H Q => rI0 (fun i j => .int (i + j)) x y H Q ∨ ((∃ i j, x = .str i ∧ y = .str j ∧ i.length + j.length ≤ sizeLine ∧ Q (.str (i ++ j)) H) ∨ (rCatF K x y H Q ∨ rCatL x y H Q))
theorem op_addG : OpR X (binaryOp .Add) (rAddG X.K) := op_add.or (op_add_str.or (op_catF.or op_catL))
theorem do_add : DOp C K (rAddG K) addD := fun H x y a b o hx hy e Q q => by
  cases a with
  | int i => cases b with
    | int j =>
      cases e
      cases hx.int
      cases hy.int
      exact .inl ⟨i, j, rfl, rfl, same0 q (.int _)⟩
    | _ => cases e
  | str i => cases b with
    | str j =>
      have e : (if i.length + j.length < LIM then some (Res.d (.str (i ++ j))) else none) = some o := e
      split at e
      · next hl =>
        cases e
        cases hx.str
        cases hy.str
        exact .inr (.inl ⟨i, j, rfl, rfl, Nat.le_of_lt (lim_line hl), same0 q (.str _)⟩)
      · cases e
    | _ => cases e
  | tuple xs => cases b with
    | tuple ys =>
      have e : (if xs.length + ys.length < LIM then some (Res.d (.tuple (xs ++ ys))) else none) = some o := e
      split at e
      · next hl =>
        cases e
        obtain ⟨rx, p, vs, rfl, h1, h2⟩ := hx.tuple
        obtain ⟨ry, p', vs', rfl, h1', h2'⟩ := hy.tuple
        have l1 := h2.length
        have l2 := h2'.length
        refine .inr (.inr (.inl ⟨p, p', vs, vs', rfl, rfl, h1.sqT, h1'.sqT, by have := lim_line hl; omega, fun z => same0 q ?_, fun z1 z2 => same0 q ?_, fun z1 z2 p2 o2 hp hc hd => ?_⟩))
        · subst z
          cases h2
          exact ry
        · subst z2
          cases h2'
          rw [List.append_nil]
          exact rx
        · have s := same_new (o := .frz o2 (.tup (vs ++ vs'))) hp
          exact q _ _ s (.tup ⟨o2, upd_same, hc, hd⟩ ((h2.append h2').mono (Fm.of s)))
      · cases e
    | _ => cases e
  | list xs => cases b with
    | list ys =>
      have e : (if xs.length + ys.length < LIM then some (Res.l (xs ++ ys)) else none) = some o := e
      split at e
      · next hl =>
        cases e
        obtain ⟨p, vs, rfl, h1, h2⟩ := hx.list
        obtain ⟨p', vs', rfl, h1', h2'⟩ := hy.list
        have l1 := h2.length
        have l2 := h2'.length
        exact .inr (.inr (.inr ⟨p, p', vs, vs', rfl, rfl, h1, h1', by have := lim_line hl; omega, fun p2 hp => q p2 H _ (Same.refl H) hp (h2.append h2')⟩))
      · cases e
    | _ => cases e
  | _ => cases e
def int2 (c : Int → Int → Bool) (f : Int → Int → PyData) : PyData → PyData → Option Res
  | .int i, .int j => if c i j then some (.d (f i j)) else none
  | _, _ => none
theorem int2_some {c : Int → Int → Bool} {f : Int → Int → PyData} {a b : PyData} {o : Res} (e : int2 c f a b = some o) : ∃ i j, a = .int i ∧ b = .int j ∧ c i j = true ∧ o = .d (f i j) := by
  cases a with
  | int i => cases b with
    | int j =>
      have e : (if c i j then some (Res.d (f i j)) else none) = some o := e
      split at e
      · next h =>
        cases e
        exact ⟨i, j, rfl, rfl, h, rfl⟩
      · cases e
    | _ => cases e
  | _ => cases e
def subD := int2 (fun _ _ => true) fun i j => .int (i - j)
theorem do_sub : DOp C K (rI0 fun i j => .int (i - j)) subD := fun H x y a b o hx hy e Q q => by
  obtain ⟨i, j, rfl, rfl, _, rfl⟩ := int2_some e
  exact ⟨i, j, hx.int, hy.int, same0 q (.int _)⟩
def mulD : PyData → PyData → Option Res
  | .int i, .int j => if i.natAbs.log2 + j.natAbs.log2 < 1000000 then some (.d (.int (i * j))) else none
  | .list xs, .int k => if -(2 ^ 63) ≤ k ∧ k < 2 ^ 63 ∧ xs.length * k.toNat < LIM then some (.l (List.replicate k.toNat xs).flatten) else none
  | _, _ => none
theorem RA.rep {vs : List V} {ds : List PyData} (h : RA C H vs ds) : ∀ k : Nat, RA C H (List.replicate k vs).flatten (List.replicate k ds).flatten
  | 0 => .nil
  | k + 1 => by
    rw [List.replicate_succ, List.replicate_succ, List.flatten_cons, List.flatten_cons]
    exact h.append (RA.rep h k)
theorem op_mulG : OpR X (binaryOp .Mult) (fun x y H Q => rI CMulW (fun i j => .int (i * j)) x y H Q ∨ rRepL x y H Q) := op_mulW.or op_repL
theorem do_mul : DOp C K (fun x y H Q => rI CMulW (fun i j => .int (i * j)) x y H Q ∨ rRepL x y H Q) mulD := fun H x y a b o hx hy e Q q => by
  cases b with
  | int j => cases a with
    | int i =>
      have e : (if i.natAbs.log2 + j.natAbs.log2 < 1000000 then some (Res.d (.int (i * j))) else none) = some o := e
      split at e
      · next h =>
        cases e
        exact .inl ⟨i, j, hx.int, hy.int, h, same0 q (.int _)⟩
      · cases e
    | list xs =>
      have e : (if -(2 ^ 63) ≤ j ∧ j < 2 ^ 63 ∧ xs.length * j.toNat < LIM then some (Res.l (List.replicate j.toNat xs).flatten) else none) = some o := e
      split at e
      · next h =>
        cases e
        obtain ⟨p, vs, rfl, h1, h2⟩ := hx.list
        exact .inr ⟨p, j, vs, rfl, hy.int, h1, h.1, h.2.1, by rw [h2.length]; exact Nat.le_of_lt (lim_line h.2.2), fun p2 hp => q p2 H _ (Same.refl H) hp (h2.rep j.toNat)⟩
      · cases e
    | _ => cases e
  | _ => cases a <;> cases e
def fdivD := int2 (fun _ j => decide (0 < j ∧ j.natAbs.log2 < 9000)) fun i j => .int (i / j)
theorem do_fdiv : DOp C K (rI CDivW fun i j => .int (i / j)) fdivD := fun H x y a b o hx hy e Q q => by
  obtain ⟨i, j, rfl, rfl, h, rfl⟩ := int2_some e
  exact ⟨i, j, hx.int, hy.int, (show 0 < j ∧ j.natAbs.log2 < 9000 from of_decide_eq_true h), same0 q (.int _)⟩
def modD := int2 (fun _ j => decide (0 < j)) fun i j => .int (i % j)
theorem do_mod : DOp C K (rI (fun _ j => 0 < j) fun i j => .int (i % j)) modD := fun H x y a b o hx hy e Q q => by
  obtain ⟨i, j, rfl, rfl, h, rfl⟩ := int2_some e
  exact ⟨i, j, hx.int, hy.int, of_decide_eq_true h, same0 q (.int _)⟩
def powD := int2 (fun i j => decide (0 ≤ j ∧ j ≤ 1000000 ∧ i.natAbs < 2 ^ 64)) fun i j => .int (i ^ j.toNat)
theorem do_pow : DOp C K (rI CPow fun i j => .int (i ^ j.toNat)) powD := fun H x y a b o hx hy e Q q => by
  obtain ⟨i, j, rfl, rfl, h, rfl⟩ := int2_some e
  exact ⟨i, j, hx.int, hy.int, (show 0 ≤ j ∧ j ≤ 1000000 ∧ i.natAbs < 2 ^ 64 from of_decide_eq_true h), same0 q (.int _)⟩
def shlD := int2 (fun i j => decide (0 ≤ j ∧ j ≤ 1000000 ∧ i.natAbs < 2 ^ 64)) fun i j => .int (i * 2 ^ j.toNat)
theorem do_shl : DOp C K (rI CPow fun i j => .int (i * 2 ^ j.toNat)) shlD := fun H x y a b o hx hy e Q q => by
  obtain ⟨i, j, rfl, rfl, h, rfl⟩ := int2_some e
  exact ⟨i, j, hx.int, hy.int, (show 0 ≤ j ∧ j ≤ 1000000 ∧ i.natAbs < 2 ^ 64 from of_decide_eq_true h), same0 q (.int _)⟩
def negD : PyData → Option Res
  | .int i => some (.d (.int (-i)))
  | _ => none
theorem du_neg : DUn C K (rU fun i => .int (-i)) negD := fun H x a o hx e Q q => by
  cases a with
  | int i =>
    cases e
    exact ⟨i, hx.int, same0 q (.int _)⟩
  | _ => cases e
/-! comparisons -/
def toV : PyData → V
  | .none => .non
  | .bool b => .bl b
  | .int i => .int i
  | .str x => .str x
  | _ => .non
def flatD : PyData → Bool
  | .none => true
  | .bool _ => true
  | .int _ => true
  | .str _ => true
  | _ => false
theorem RV.flat {v : V} {d : PyData} (h : RV C K H v d) (f : flatD d = true) : v = toV d ∧ flatV v = true := by
  cases d with
  | none => cases h.none; exact ⟨rfl, rfl⟩
  | bool b => cases h.bool; exact ⟨rfl, rfl⟩
  | int i => cases h.int; exact ⟨rfl, rfl⟩
  | str x => cases h.str; exact ⟨rfl, rfl⟩
  | _ => cases f
theorem RA.flat : ∀ {vs : List V} {ds : List PyData}, RA C H vs ds → ds.all flatD = true → vs = ds.map toV ∧ vs.all flatV = true
  | _, _, .nil, _ => ⟨rfl, rfl⟩
  | _, _, .cons h t, f => by
    rw [List.all_cons, Bool.and_eq_true] at f
    obtain ⟨a, b⟩ := RV.flat (K := []) (.of h) f.1
    obtain ⟨c, d⟩ := RA.flat t f.2
    exact ⟨by rw [List.map_cons, ← a, ← c], by rw [List.all_cons, b, d]; rfl⟩
def lt2 (neg : Bool) : PyData → PyData → Option Res
  | .int i, .int j => some (.d (.bool (if neg then decide (j < i) else decide (i < j))))
  | .str x, .str y => if neg then none else some (.d (.bool (decide (x.cps.toList < y.cps.toList))))
  | _, _ => none
theorem op_ltG : OpR X (compareOp .Lt) (fun x y H Q => rI0 (fun i j => .bl (decide (i < j))) x y H Q ∨ rLtS x y H Q) := op_lt.or op_lt_str
theorem do_lt : DOp C K (fun x y H Q => rI0 (fun i j => .bl (decide (i < j))) x y H Q ∨ rLtS x y H Q) (lt2 false) := fun H x y a b o hx hy e Q q => by
  cases a with
  | int i => cases b with
    | int j =>
      cases e
      exact .inl ⟨i, j, hx.int, hy.int, same0 q (.bl _)⟩
    | _ => cases e
  | str i => cases b with
    | str j =>
      cases e
      exact .inr ⟨i, j, hx.str, hy.str, same0 q (.bl _)⟩
    | _ => cases e
  | _ => cases e
def gtD : PyData → PyData → Option Res
  | .int i, .int j => some (.d (.bool (decide (j < i))))
  | .str x, .str y => some (.d (.bool (decide (y.cps.toList < x.cps.toList))))
  | _, _ => none
theorem op_gtG : OpR X (compareOp .Gt) (fun x y H Q => rI0 (fun i j => .bl (decide (j < i))) x y H Q ∨ ∃ i j, x = .str i ∧ y = .str j ∧ Q (.bl (decide (j.cps.toList < i.cps.toList))) H) := op_gt.or op_gt_str
theorem do_gt : DOp C K (fun x y H Q => rI0 (fun i j => .bl (decide (j < i))) x y H Q ∨ ∃ i j, x = .str i ∧ y = .str j ∧ Q (.bl (decide (j.cps.toList < i.cps.toList))) H) gtD := fun H x y a b o hx hy e Q q => by
  cases a with
  | int i => cases b with
    | int j =>
      cases e
      exact .inl ⟨i, j, hx.int, hy.int, same0 q (.bl _)⟩
    | _ => cases e
  | str i => cases b with
    | str j =>
      cases e
      exact .inr ⟨i, j, hx.str, hy.str, same0 q (.bl _)⟩
    | _ => cases e
  | _ => cases e
def leD : PyData → PyData → Option Res
  | .int i, .int j => some (.d (.bool (decide (i ≤ j))))
  | .str x, .str y => some (.d (.bool (!decide (y.cps.toList < x.cps.toList))))
  | _, _ => none
theorem op_leG : OpR X (compareOp .LtE) (fun x y H Q => rI0 (fun i j => .bl (decide (i ≤ j))) x y H Q ∨ ∃ i j, x = .str i ∧ y = .str j ∧ Q (.bl (!decide (j.cps.toList < i.cps.toList))) H) := op_le.or op_le_str
theorem do_le : DOp C K (fun x y H Q => rI0 (fun i j => .bl (decide (i ≤ j))) x y H Q ∨ ∃ i j, x = .str i ∧ y = .str j ∧ Q (.bl (!decide (j.cps.toList < i.cps.toList))) H) leD := fun H x y a b o hx hy e Q q => by
  cases a with
  | int i => cases b with
    | int j =>
      cases e
      exact .inl ⟨i, j, hx.int, hy.int, same0 q (.bl _)⟩
    | _ => cases e
  | str i => cases b with
    | str j =>
      cases e
      exact .inr ⟨i, j, hx.str, hy.str, same0 q (.bl _)⟩
    | _ => cases e
  | _ => cases e
def geD := int2 (fun _ _ => true) fun i j => .bool (decide (j ≤ i))
theorem do_ge : DOp C K (rI0 fun i j => .bl (decide (j ≤ i))) geD := fun H x y a b o hx hy e Q q => by
  obtain ⟨i, j, rfl, rfl, _, rfl⟩ := int2_some e
  exact ⟨i, j, hx.int, hy.int, same0 q (.bl _)⟩
def eqD (neg : Bool) (a b : PyData) : Option Res :=
  if flatD a && flatD b && scal (toV a) (toV b) then some (.d (.bool (if neg then !decide (toV a = toV b) else decide (toV a = toV b))))
  else if noDict a && noDict b && SeqAt.shaped a && SeqAt.shaped b then some (.d (.bool (if neg then !PyData.eqv a b else PyData.eqv a b))) else none
theorem op_eqG (hu : X.A.units + 64 < cLine) : OpR X (compareOp .Eq) (fun x y H Q => rEq x y H Q ∨ rEqD X.K x y H Q) := op_eq.or (op_eqD hu)
theorem op_neG (hu : X.A.units + 64 < cLine) : OpR X (compareOp .NotEq) (fun x y H Q => rNe x y H Q ∨ rNeD X.K x y H Q) := op_ne.or (op_neD hu)
theorem do_eq : DOp C K (fun x y H Q => rEq x y H Q ∨ rEqD K x y H Q) (eqD false) := fun H x y a b o hx hy e Q q => by
  unfold eqD at e
  split at e
  · next h =>
    cases e
    rw [Bool.and_eq_true, Bool.and_eq_true] at h
    rw [(hx.flat h.1.1).1, (hy.flat h.1.2).1]
    exact .inl ⟨h.2, same0 q (.bl _)⟩
  · split at e
    · next h =>
      cases e
      simp only [Bool.and_eq_true] at h
      exact .inr ⟨a, b, hx.dp h.1.1.1, hy.dp h.1.1.2, h.1.2, h.2, same0 q (.bl _)⟩
    · cases e
theorem do_ne : DOp C K (fun x y H Q => rNe x y H Q ∨ rNeD K x y H Q) (eqD true) := fun H x y a b o hx hy e Q q => by
  unfold eqD at e
  split at e
  · next h =>
    cases e
    rw [Bool.and_eq_true, Bool.and_eq_true] at h
    rw [(hx.flat h.1.1).1, (hy.flat h.1.2).1]
    exact .inl ⟨h.2, same0 q (.bl _)⟩
  · split at e
    · next h =>
      cases e
      simp only [Bool.and_eq_true] at h
      exact .inr ⟨a, b, hx.dp h.1.1.1, hy.dp h.1.1.2, h.1.2, h.2, same0 q (.bl _)⟩
    · cases e
/-- in, over a list or a tuple -/
def inS (neg : Bool) (a b : PyData) : Option Res := match b with
  | .list xs => if flatD a && xs.all flatD then some (.d (.bool (if neg then !xs.any fun y => eqV (toV y) (toV a) else xs.any fun y => eqV (toV y) (toV a))))
    else if noDict a && noDictAll xs && SeqAt.shaped a && SeqAt.shaped (.list xs) then some (.d (.bool (if neg then !xs.any fun z => PyData.eqv z a else xs.any fun z => PyData.eqv z a))) else none
  | .tuple xs => if flatD a && xs.all flatD then some (.d (.bool (if neg then !xs.any fun y => eqV (toV y) (toV a) else xs.any fun y => eqV (toV y) (toV a)))) else none
  | _ => none
theorem op_inG (hu : X.A.units + 65 < cLine) : OpR X (compareOp .In) (fun x y H Q => rIn X.K false x y H Q ∨ rInD X.K x y H Q) := op_in_seq.or (op_inD hu)
theorem op_notInG (hu : X.A.units + 65 < cLine) : OpR X (compareOp .NotIn) (fun x y H Q => rIn X.K true x y H Q ∨ rNotInD X.K x y H Q) := op_notIn_seq.or (op_notInD hu)
theorem inV_map (a : PyData) (xs : List PyData) : inV (toV a) (xs.map toV) = xs.any fun y => eqV (toV y) (toV a) := by
  unfold inV
  rw [List.any_map]
  rfl
theorem do_in : DOp C K (fun x y H Q => rIn K false x y H Q ∨ rInD K x y H Q) (inS false) := fun H x y a b o hx hy e Q q => by
  cases b with
  | list xs =>
    unfold inS at e
    dsimp only at e
    obtain ⟨p, vs, rfl, h1, h2⟩ := hy.list
    split at e
    · next h =>
      cases e
      rw [Bool.and_eq_true] at h
      obtain ⟨e1, e2⟩ := h2.flat h.2
      rw [(hx.flat h.1).1]
      refine .inl ⟨p, vs, rfl, .inl (.inl h1), by rw [← (hx.flat h.1).1]; exact (hx.flat h.1).2, e2, ?_⟩
      rw [e1, inV_map]
      exact same0 q (.bl _)
    · split at e
      · next h =>
        cases e
        simp only [Bool.and_eq_true] at h
        exact .inr ⟨a, xs, hx.dp h.1.1.1, .lst (.inl h1) (h2.dp h.1.1.2), h.1.2, h.2, same0 q (.bl _)⟩
      · cases e
  | tuple xs =>
    unfold inS at e
    dsimp only at e
    obtain ⟨_, p, vs, rfl, h1, h2⟩ := hy.tuple
    split at e
    · next h =>
      cases e
      rw [Bool.and_eq_true] at h
      obtain ⟨e1, e2⟩ := h2.flat h.2
      rw [(hx.flat h.1).1]
      refine .inl ⟨p, vs, rfl, .inr h1.sqT, by rw [← (hx.flat h.1).1]; exact (hx.flat h.1).2, e2, ?_⟩
      rw [e1, inV_map]
      exact same0 q (.bl _)
    · cases e
  | _ => cases e
theorem do_notIn : DOp C K (fun x y H Q => rIn K true x y H Q ∨ rNotInD K x y H Q) (inS true) := fun H x y a b o hx hy e Q q => by
  cases b with
  | list xs =>
    unfold inS at e
    dsimp only at e
    obtain ⟨p, vs, rfl, h1, h2⟩ := hy.list
    split at e
    · next h =>
      cases e
      rw [Bool.and_eq_true] at h
      obtain ⟨e1, e2⟩ := h2.flat h.2
      rw [(hx.flat h.1).1]
      refine .inl ⟨p, vs, rfl, .inl (.inl h1), by rw [← (hx.flat h.1).1]; exact (hx.flat h.1).2, e2, ?_⟩
      rw [e1, inV_map]
      exact same0 q (.bl _)
    · split at e
      · next h =>
        cases e
        simp only [Bool.and_eq_true] at h
        exact .inr ⟨a, xs, hx.dp h.1.1.1, .lst (.inl h1) (h2.dp h.1.1.2), h.1.2, h.2, same0 q (.bl _)⟩
      · cases e
  | tuple xs =>
    unfold inS at e
    dsimp only at e
    obtain ⟨_, p, vs, rfl, h1, h2⟩ := hy.tuple
    split at e
    · next h =>
      cases e
      rw [Bool.and_eq_true] at h
      obtain ⟨e1, e2⟩ := h2.flat h.2
      rw [(hx.flat h.1).1]
      refine .inl ⟨p, vs, rfl, .inr h1.sqT, by rw [← (hx.flat h.1).1]; exact (hx.flat h.1).2, e2, ?_⟩
      rw [e1, inV_map]
      exact same0 q (.bl _)
    · cases e
  | _ => cases e
/-! x[i] -/
def ixD : PyData → PyData → Option Res
  | .list xs, .int i => (atI xs i).map .d
  | .tuple xs, .int i => (atI xs i).map .d
  | .str z, .int i => if z.length < LIM then (atI z.cps.toList i).map fun c => .d (.str ⟨#[c]⟩) else none
  | _, _ => none
def rIxG (K : PySem.W.Frag) : R2 := fun x y H Q => rIxL K x y H Q ∨ (rIxT K x y H Q ∨ rIxS x y H Q)
theorem op_ixG : IxR X (rIxG X.K) := ix_list.or (ix_tup.or ix_str)
theorem RA.atI {vs : List V} {ds : List PyData} (h : RA C H vs ds) {i : Int} {d : PyData} (e : atI ds i = some d) : ∃ v, atI vs i = some v ∧ R C H v d := by
  unfold L2.atI at e ⊢
  rw [h.length]
  obtain ⟨j, e1, e2⟩ := Option.bind_eq_some_iff.mp e
  obtain ⟨v, e3, r⟩ := h.get2 e2
  exact ⟨v, by rw [e1]; exact e3, r⟩
theorem do_ix : DOp C K (rIxG K) ixD := fun H x y a b o hx hy e Q q => by
  cases b with
  | int i => cases a with
    | list xs =>
      obtain ⟨d, e1, rfl⟩ := Option.map_eq_some_iff.mp (show (atI xs i).map Res.d = some o from e)
      obtain ⟨p, vs, rfl, h1, h2⟩ := hx.list
      obtain ⟨v, e2, r⟩ := h2.atI e1
      exact .inl ⟨p, vs, i, v, rfl, hy.int, .inl h1, e2, same0 q r⟩
    | tuple xs =>
      obtain ⟨d, e1, rfl⟩ := Option.map_eq_some_iff.mp (show (atI xs i).map Res.d = some o from e)
      obtain ⟨_, p, vs, rfl, h1, h2⟩ := hx.tuple
      obtain ⟨v, e2, r⟩ := h2.atI e1
      exact .inr (.inl ⟨p, vs, i, v, rfl, hy.int, h1.sqT, e2, same0 q r⟩)
    | str z =>
      have e : (if z.length < LIM then (atI z.cps.toList i).map fun c => Res.d (.str ⟨#[c]⟩) else none) = some o := e
      split at e
      · next hl =>
        obtain ⟨c, e1, rfl⟩ := Option.map_eq_some_iff.mp e
        exact .inr (.inr ⟨z, i, c, hx.str, hy.int, Nat.le_of_lt (lim_line hl), e1, same0 q (.str _)⟩)
      · cases e
    | _ => cases e
  | _ => cases a <;> cases e
/-! x[a:b] -/
def rSlF (K : PySem.W.Frag) : V → Option Int → Option Int → Hp → VK → Prop := fun x lo hi H Q => ∃ a xs, x = .ref a ∧ SqT K H a xs ∧
  (HT.sIx xs.length 0 lo = 0 ∧ HT.sIx xs.length xs.length hi = xs.length → Q (.ref a) H) ∧ (¬ (HT.sIx xs.length 0 lo = 0 ∧ HT.sIx xs.length xs.length hi = xs.length) → ∀ p (o : Obj), H p = none → o.cls = .type "tuple" → o.dict = none → Q (.ref p) (upd H p (.frz o (.tup (cutV xs lo hi)))))
theorem sl_tupF : SlR X (rSlF X.K) := by
  intro pins s σ H x v vl vu lo hi sl Q I rx hs pl pu h
  obtain ⟨a, xs, rfl, hx, q1, q2⟩ := h
  cases rx
  obtain ⟨its, r, ht, hz⟩ := I.tuple hx
  have hlen : its.toArray.size = xs.length := by rw [List.size_toArray]; exact r.length.symm
  refine ⟨"tuple", _, PyProof.Rows.slot_tuple_getitem.lookup, ht.typeIs, ?_⟩
  by_cases hw : HT.sIx xs.length 0 lo = 0 ∧ HT.sIx xs.length xs.length hi = xs.length
  · exact getItem_tuple_whole ht hs pl pu (by rw [hlen]; exact hw) ⟨.ref a, H, I, rfl, q1 hw⟩
  · refine HT.getItem_tuple_cut ht hs pl pu (by rw [hlen]; exact hw) ?_ (by rw [hlen]; exact hz)
    rw [hlen]
    refine ⟨.ref s.heap.objs.size, _, I.laid (t' := s.toks) (o := .frz _ (.tup (cutV xs lo hi))) (fun b ob q => Heap.get?_push_of_some _ q) (Nat.le_refl _) ⟨Heap.get?_push_size _ rfl, Nat.le_trans (cutV_length xs lo hi) hz, _, (r.drop (HT.sIx xs.length 0 lo)).take (HT.sIx xs.length xs.length hi - HT.sIx xs.length 0 lo), IsTup.new _ _⟩, rfl, q2 hw _ _ (I.hok.fresh (Nat.le_refl _)) rfl rfl⟩
def rSlG (K : PySem.W.Frag) : V → Option Int → Option Int → Hp → VK → Prop := fun x lo hi H Q => rSlL K x lo hi H Q ∨ (rSlF K x lo hi H Q ∨ rSlS x lo hi H Q)
theorem op_slG : SlR X (rSlG X.K) := sl_list.or (sl_tupF.or sl_str)
/-- as the layer cuts -/
def cutD (xs : List PyData) (lo hi : Option Int) : List PyData := (xs.drop (HT.sIx xs.length 0 lo)).take (HT.sIx xs.length xs.length hi - HT.sIx xs.length 0 lo)
def slD (lo hi : Option Int) : PyData → Option Res
  | .list xs => some (.l (cutD xs lo hi))
  | .tuple xs => some (.d (.tuple (cutD xs lo hi)))
  | .str z => if z.length < LIM then some (.d (.str (cutS z lo hi))) else none
  | _ => none
theorem RA.cut {vs : List V} {ds : List PyData} (h : RA C H vs ds) (lo hi : Option Int) : RA C H (cutV vs lo hi) (cutD ds lo hi) := by
  unfold cutV cutD
  rw [h.length]
  exact (h.drop _).take _
theorem do_sl {lo hi : Option Int} {x : V} {a : PyData} {o : Res} (hx : RV C K H x a) (e : slD lo hi a = some o) {Q : VK} (q : ResK C H Q o) : rSlG K x lo hi H Q := by
  cases a with
  | list xs =>
    cases e
    obtain ⟨p, vs, rfl, h1, h2⟩ := hx.list
    exact .inl ⟨p, vs, rfl, .inl h1, fun p2 hp => q p2 H _ (Same.refl H) hp (h2.cut lo hi)⟩
  | tuple xs =>
    cases e
    obtain ⟨rx, p, vs, rfl, h1, h2⟩ := hx.tuple
    refine .inr (.inl ⟨p, vs, rfl, h1.sqT, fun hw => same0 q ?_, fun hw p2 o2 hp hc hd => ?_⟩)
    · have e : cutD xs lo hi = xs := by
        unfold cutD
        rw [h2.length] at hw
        rw [hw.1, hw.2, List.drop_zero, Nat.sub_zero, List.take_length]
      rw [e]
      exact rx
    · have s := same_new (o := .frz o2 (.tup (cutV vs lo hi))) hp
      exact q _ _ s (.tup ⟨o2, upd_same, hc, hd⟩ ((h2.cut lo hi).mono (Fm.of s)))
  | str z =>
    have e : (if z.length < LIM then some (Res.d (.str (cutS z lo hi))) else none) = some o := e
    split at e
    · next hl =>
      cases e
      exact .inr (.inr ⟨z, hx.str, Nat.le_of_lt (lim_line hl), same0 q (.str _)⟩)
    · cases e
  | _ => cases e
def mPartI : Option (Mi Val) → Mi (Option Int)
  | none => fun ρ => some (none, ρ)
  | some m => fun ρ => (fz m ρ).bind fun r => match r.1 with
    | .d (.int i) => some (some i, r.2)
    | _ => none
def mSl (m : Mi Val) (lo hi : Option (Mi Val)) : Mi Val := fun ρ => (fz m ρ).bind fun a => (mPartI lo a.2).bind fun l => (mPartI hi l.2).bind fun h => (a.1.res h.2).bind fun d => (slD l.1 h.1 d).map fun o => (o.val, h.2)
def tPI (C : Program × World) (m : Mi (Option Int)) : TO := fun σ H Q => ∃ B H0 ρ i ρ', SR C B H0 σ H ρ ∧ m ρ = some (i, ρ') ∧ ∀ H', SR C B H0 σ H' ρ' → Fm H H' → Q i H'
theorem gpo_none : PO X none (tPI C (mPartI none)) := ⟨fun pins s σ H Q I ⟨B, H0, ρ, i, ρ', sr, em, q⟩ => po_none.run pins s σ H Q I (by
  cases em
  exact q H sr (Fm.refl H))⟩
theorem gpo_some {e : Expr} {m : Mi Val} (h : PE X e (tX C m)) : PO X (some e) (tPI C (mPartI (some m))) := ⟨fun pins s σ H Q I ⟨B, H0, ρ, i, ρ', sr, em, q⟩ => (po_some (pe_fz h)).run pins s σ H Q I (by
  obtain ⟨⟨a, ρ1⟩, h1, em⟩ := Option.bind_eq_some_iff.mp em
  cases a with
  | b j => cases em
  | d d => cases d with
    | int k =>
      cases em
      refine ⟨B, H0, ρ, _, _, sr, h1, fun v H' s r f => ?_⟩
      cases r
      exact ⟨k, rfl, q H' s f⟩
    | _ => cases em)⟩
theorem gx_sl {e : Expr} {lo hi : Option Expr} {p2 pos : Pos} {m : Mi Val} {ml mh : Option (Mi Val)} (he : PE X e (tX C m)) (hl : PO X lo (tPI C (mPartI ml))) (hh : PO X hi (tPI C (mPartI mh))) : PE X (.Subscript e (.Slice lo hi none p2) pos) (tX C (mSl m ml mh)) :=
  pe_wk (pe_slice op_slG (pe_fz he) hl hh) fun σ H Q ⟨B, H0, ρ, v, ρ', sr, em, q⟩ => by
    obtain ⟨⟨a, ρ1⟩, h1, em⟩ := Option.bind_eq_some_iff.mp em
    obtain ⟨⟨l, ρ2⟩, h2, em⟩ := Option.bind_eq_some_iff.mp em
    obtain ⟨⟨h, ρ3⟩, h3, em⟩ := Option.bind_eq_some_iff.mp em
    obtain ⟨d, h4, em⟩ := Option.bind_eq_some_iff.mp em
    obtain ⟨o, h5, em⟩ := Option.map_eq_some_iff.mp em
    cases em
    exact ⟨B, H0, ρ, a, ρ1, sr, h1, fun x1 H1 s1 a1 f1 => ⟨B, H0, ρ1, l, ρ2, s1, h2, fun H2 s2 f2 => ⟨B, H0, ρ2, h, ρ3, s2, h3, fun H3 s3 f3 => do_sl (res_rv s3 (a1.mono (f2.trans f3)) h4) h5 (val_of s3 (f1.trans (f2.trans f3)) q)⟩⟩⟩
end
end G
/-! built-in functions on data -/
namespace G
open PySem PySem.W PyProof.Rows L2 HD
theorem CallR.mono {X : Cx} {f : Value} {r r' : List V → Hp → VK → Prop} (h : CallR X f r) (w : ∀ xs H Q, r' xs H Q → r xs H Q) : CallR X f r' := fun pins s σ H xs us Q I rv q => h pins s σ H xs us Q I rv (w xs H Q q)
section
variable {X : Cx} {C : Program × World} {K : PySem.W.Frag} {H : Hp}
theorem RVs.one {xs : List V} {d : PyData} (h : RVs C K H xs [d]) : ∃ x, xs = [x] ∧ RV C K H x d := by
  cases h with
  | cons a t =>
    cases t
    exact ⟨_, rfl, a⟩
theorem RVs.two {xs : List V} {d e : PyData} (h : RVs C K H xs [d, e]) : ∃ x y, xs = [x, y] ∧ RV C K H x d ∧ RV C K H y e := by
  cases h with
  | cons a t =>
    obtain ⟨y, rfl, b⟩ := t.one
    exact ⟨_, y, rfl, a, b⟩
/-! abs, int, str, sum -/
def absD : List PyData → Option Res
  | [.int i] => some (.d (.int (if i < 0 then -i else i)))
  | _ => none
theorem dc_abs : DCl C K (fun xs H Q => ∃ i, xs = [.int i] ∧ Q (.int (if i < 0 then -i else i)) H) absD := fun H xs as o h e Q q => by
  unfold absD at e
  split at e
  · next i =>
    cases e
    obtain ⟨x, rfl, hx⟩ := h.one
    rw [hx.int]
    exact ⟨i, rfl, same0 q (.int _)⟩
  · cases e
def intD : List PyData → Option Res
  | [.int i] => some (.d (.int i))
  | [.bool b] => some (.d (.int (if b then 1 else 0)))
  | _ => none
theorem dc_int : DCl C K (fun xs H Q => (∃ i, xs = [.int i] ∧ Q (.int i) H) ∨ ∃ k, xs = [.bl k] ∧ Q (.int (if k then 1 else 0)) H) intD := fun H xs as o h e Q q => by
  unfold intD at e
  split at e
  · next i =>
    cases e
    obtain ⟨x, rfl, hx⟩ := h.one
    rw [hx.int]
    exact .inl ⟨i, rfl, same0 q (.int _)⟩
  · next b =>
    cases e
    obtain ⟨x, rfl, hx⟩ := h.one
    rw [hx.bool]
    exact .inr ⟨b, rfl, same0 q (.int _)⟩
  · cases e
def strD : List PyData → Option Res
  | [.int i] => if i.natAbs.log2 < 1920 then some (.d (.str (toString i))) else none
  | _ => none
theorem dc_str : DCl C K (fun xs H Q => ∃ i, xs = [.int i] ∧ i.natAbs.log2 < 1920 ∧ Q (.str (toString i)) H) strD := fun H xs as o h e Q q => by
  unfold strD at e
  split at e
  · next i =>
    split at e
    · next hl =>
      cases e
      obtain ⟨x, rfl, hx⟩ := h.one
      rw [hx.int]
      exact ⟨i, rfl, hl, same0 q (.str _)⟩
    · cases e
  · cases e
def intsOf : List PyData → Option (List Int)
  | [] => some []
  | .int i :: ds => (intsOf ds).map fun is => i :: is
  | _ => none
theorem intsOf_some : ∀ {ds : List PyData} {is : List Int}, intsOf ds = some is → ds = is.map PyData.int
  | [], _, e => by cases e; rfl
  | .int i :: ds, _, e => by
    obtain ⟨is, h1, rfl⟩ := Option.map_eq_some_iff.mp (show (intsOf ds).map (fun is => i :: is) = some _ from e)
    rw [List.map_cons, ← intsOf_some h1]
  | .none :: _, _, e => by cases e
  | .bool _ :: _, _, e => by cases e
  | .str _ :: _, _, e => by cases e
  | .list _ :: _, _, e => by cases e
  | .tuple _ :: _, _, e => by cases e
  | .dict _ :: _, _, e => by cases e
theorem RA.ints : ∀ {vs : List V} {is : List Int}, RA C H vs (is.map PyData.int) → vs = is.map V.int
  | _, [], .nil => rfl
  | _, i :: is, .cons h t => by
    cases h
    rw [RA.ints t]
    rfl
def sumD : List PyData → Option Res
  | [.list xs] => (intsOf xs).map fun is => .d (.int is.sum)
  | _ => none
theorem dc_sum : DCl C K (rSum K) sumD := fun H xs as o h e Q q => by
  unfold sumD at e
  split at e
  · next ds =>
    obtain ⟨is, e1, rfl⟩ := Option.map_eq_some_iff.mp e
    obtain ⟨x, rfl, hx⟩ := h.one
    obtain ⟨p, vs, rfl, h1, h2⟩ := hx.list
    rw [intsOf_some e1] at h2
    rw [h2.ints] at h1
    exact ⟨p, is, rfl, .inl h1, same0 q (.int _)⟩
  · cases e
/-! len -/
def lenD : List PyData → Option Res
  | [.list xs] => some (.d (.int xs.length))
  | [.tuple xs] => some (.d (.int xs.length))
  | [.str x] => if x.length < LIM then some (.d (.int x.length)) else none
  | [.dict l] => if l.length < LIM then some (.d (.int l.length)) else none
  | _ => none
def rLenD (C : Program × World) (K : PySem.W.Frag) : List V → Hp → VK → Prop := fun xs H Q => ∃ x l, xs = [x] ∧ RV C K H x (.dict l) ∧ l.length < LIM ∧ Q (.int l.length) H
theorem call_len_G (hC : (X.prog, X.w) = C) : CallR X (.builtin "len") (rLenD C X.K) := by
  subst hC
  intro pins s σ H xs us Q I r h
  obtain ⟨x, l, rfl, hx, hl, q⟩ := h
  obtain ⟨u, rfl, rx⟩ := vals1 r
  rcases hx.dict with ⟨p, kvs, es, rfl, h1, h2, rfl⟩ | ⟨p, xs, es, rfl, h1, h2, rfl⟩
  · obtain rfl : u = Value.ref p := rx
    obtain ⟨z, hd, vs, rel, dd⟩ := h1.ok I.hok
    have e1 : vs.length = (es.map fun e => (kD e.1, e.2)).length := by rw [List.length_map, ← h2.length]; exact (Paired.length rel).symm
    refine PyProof.Rows.call_len_slot (n := vs.length) dd.typeIs PySem.F.slot_dict_len (fun Q' hq => ?_) (by omega) (by rw [e1]; have := lim_line hl; rw [sizeLine_eq] at this; omega) ?_
    · exact call_meetsIn PySem.F.slot_dict_len dd.typeIs PySem.F.entry_dict_len (PySem.F.args_dict_len_1 _) (meets_dict_len_raw p hd) (by
        obtain ⟨o, es', ep, a1, a2, a3, a4, a5, a6⟩ := dd
        have : es'.size = vs.length := by
          have gen : ∀ {l : List DictEntry} {k : List (Key × Value)}, Pairs (mixKind X.prog X.w) l k → l.length = k.length := by
            intro l k h
            induction h with
            | nil => rfl
            | cons _ _ _ ih => simp [ih]
          have := gen a5
          simpa using this
        exact ⟨es', ep, ⟨o, a1, a2, a3⟩, by rw [this]; exact hq⟩)
    · rw [e1]
      exact ⟨.int _, H, I.tok _, ⟨_, rfl⟩, q⟩
  · obtain rfl : u = Value.ref p := rx
    obtain ⟨dd, hd⟩ := dn_dict I h1 h2
    have e1 : xs.length = (es.map fun e => (nkD e.1, e.2)).length := by rw [List.length_map]; exact Paired.length h2.ent
    refine call_len_dictH hd dd (by rw [e1]; have := lim_line hl; rw [sizeLine_eq] at this; omega) ?_
    rw [e1]
    exact ⟨.int _, H, I.tok _, ⟨_, rfl⟩, q⟩
def rLenG (C : Program × World) (K : PySem.W.Frag) : List V → Hp → VK → Prop := fun xs H Q => (∃ x n, xs = [x] ∧ LenV K x H n ∧ Q (.int n) H) ∨ rLenD C K xs H Q
theorem op_lenG (hC : (X.prog, X.w) = C) : CallR X (.builtin "len") (rLenG C X.K) := call_len.or (call_len_G hC)
theorem dc_len : DCl C K (rLenG C K) lenD := fun H xs as o h e Q q => by
  unfold lenD at e
  split at e
  · next ds =>
    cases e
    obtain ⟨x, rfl, hx⟩ := h.one
    obtain ⟨p, vs, rfl, h1, h2⟩ := hx.list
    exact .inl ⟨_, _, rfl, .inl ⟨vs, .inl h1, by rw [h2.length]⟩, same0 q (.int _)⟩
  · next ds =>
    cases e
    obtain ⟨x, rfl, hx⟩ := h.one
    obtain ⟨_, p, vs, rfl, h1, h2⟩ := hx.tuple
    exact .inl ⟨_, _, rfl, .inr ⟨vs, h1.sqT, by rw [h2.length]⟩, same0 q (.int _)⟩
  · next z =>
    split at e
    · next hl =>
      cases e
      obtain ⟨x, rfl, hx⟩ := h.one
      rw [hx.str]
      exact .inl ⟨_, _, rfl, ⟨Nat.le_of_lt (lim_line hl), rfl⟩, same0 q (.int _)⟩
    · cases e
  · next l =>
    split at e
    · next hl =>
      cases e
      obtain ⟨x, rfl, hx⟩ := h.one
      exact .inr ⟨x, l, rfl, hx, hl, same0 q (.int _)⟩
    · cases e
  · cases e
/-! tuple(x), list(x) -/
def tupleD : List PyData → Option Res
  | [.list xs] => some (.d (.tuple xs))
  | [.tuple xs] => some (.d (.tuple xs))
  | _ => none
def rTupG (K : PySem.W.Frag) : List V → Hp → VK → Prop := fun xs H Q => (∃ p ys, xs = [.ref p] ∧ SqL K H p ys ∧ ∀ l (o : Obj), H l = none → o.cls = .type "tuple" → o.dict = none → Q (.ref l) (L2.upd H l (.frz o (.tup ys)))) ∨ ∃ a ys, xs = [.ref a] ∧ SqT K H a ys ∧ Q (.ref a) H
theorem op_tupG : CallR X (.type "tuple") (rTupG X.K) := call_tuple_ofF.or call_tupleT
theorem dc_tuple : DCl C K (rTupG K) tupleD := fun H xs as o h e Q q => by
  unfold tupleD at e
  split at e
  · next ds =>
    cases e
    obtain ⟨x, rfl, hx⟩ := h.one
    obtain ⟨p, vs, rfl, h1, h2⟩ := hx.list
    refine .inl ⟨p, vs, rfl, .inl h1, fun l o hp hc hd => ?_⟩
    have s := same_new (o := .frz o (.tup vs)) hp
    exact q _ _ s (.tup ⟨o, upd_same, hc, hd⟩ (h2.mono (Fm.of s)))
  · next ds =>
    cases e
    obtain ⟨x, rfl, hx⟩ := h.one
    obtain ⟨rx, p, vs, rfl, h1, h2⟩ := hx.tuple
    exact .inr ⟨p, vs, rfl, h1.sqT, same0 q rx⟩
  · cases e
def listD : List PyData → Option Res
  | [.list xs] => some (.l xs)
  | [.tuple xs] => some (.l xs)
  | [.dict l] => if l.length < LIM then some (.l (l.map (·.1))) else none
  | [.str x] => if x.length ≤ 1000 then some (.l ((signsV x).map .str)) else none
  | _ => none
/-- list(d): its keys, d a dict of tuples -/
def rListN (C : Program × World) : List V → Hp → VK → Prop := fun xs H Q => ∃ p ents es, xs = [.ref p] ∧ Rd H p (HT.tiedO C.1 C.2 p ents) ∧ DN C H ents es ∧ ents.length < LIM ∧ ∀ l, H l = none → Q (.ref l) (upd H l (.lst (ents.map fun x => V.ref x.2.1)))
theorem call_listN (hc : X.calm = true) (hC : (X.prog, X.w) = C) : CallR X (.type "list") (rListN C) := by
  subst hC
  intro pins s σ H xs us Q I r h
  obtain ⟨p, ents, es, rfl, h1, h2, hl, q⟩ := h
  obtain ⟨u, rfl, rx⟩ := vals1 r
  obtain rfl : u = Value.ref p := rx
  obtain ⟨dd, hd⟩ := dn_dict I h1 h2
  obtain ⟨es', ep, hr, hs, he⟩ := dd.raw
  refine kdl_call (KdlSrc.rawDict hd) (I.ok.hd hc) hr (by rw [hs]; exact Nat.le_of_lt (lim_line hl)) fun h' tk acc c' hk hD hacc => ?_
  have hv : Vals (ents.map fun x => V.ref x.2.1) acc.toList := by
    have hlen : acc.toList.length = ents.length := by rw [Array.length_toList, hacc.1, hs]
    have hat : ∀ (j : Nat) (v : Value), acc.toList[j]? = some v → ∃ y, ents[j]? = some y ∧ v = .ref y.2.1 := fun j v e => by
      obtain ⟨hi, ev⟩ := hacc.2 j v (by rw [← Array.getElem?_toList]; exact e)
      obtain ⟨y, hy, e1, _⟩ := he j hi
      exact ⟨y, hy, ev.trans e1⟩
    clear hacc hD
    generalize acc.toList = l at hlen hat
    clear hr hs he h2 h1 dd q r hl
    induction ents generalizing l with
    | nil =>
      rw [List.length_eq_zero_iff.mp hlen]
      exact .nil
    | cons y ys ih =>
      cases l with
      | nil => simp at hlen
      | cons v l =>
        obtain ⟨y', e1, e2⟩ := hat 0 v rfl
        cases (show some y = some y' from e1)
        exact .cons e2 (ih l (by simpa using hlen) fun j v e => by simpa using hat (j + 1) v (by simpa using e))
  refine ⟨.ref s.heap.objs.size, upd H s.heap.objs.size (.lst (ents.map fun x => V.ref x.2.1)), I.laid (t' := tk) hk (Nat.le_refl _)
    (show ObjOk X.prog X.w _ _ _ (.lst (ents.map fun x => V.ref x.2.1)) from ⟨by rw [List.length_map]; exact Nat.le_of_lt (lim_line hl), acc.toList, c', hv, by rw [Array.toArray_toList]; exact hD⟩), rfl, q _ (I.hok.fresh (Nat.le_refl _))⟩
def rListG (C : Program × World) (K : PySem.W.Frag) : List V → Hp → VK → Prop := fun xs H Q => ((∃ p ys, xs = [.ref p] ∧ (SqL K H p ys ∨ SqT K H p ys) ∧ ∀ l, H l = none → Q (.ref l) (upd H l (.lst ys))) ∨ (∃ (a : Addr) (kvs : List (Key × V)), xs = [.ref a] ∧ Rd H a (.dK kvs) ∧ ∀ p, H p = none → Q (.ref p) (upd H p (.lst (kvs.map fun kv => kV kv.1))))) ∨
  (rListN C xs H Q ∨ ∃ z : Str, xs = [.str z] ∧ z.length ≤ 1000 ∧ ∀ p, H p = none → Q (.ref p) (L2.upd H p (.lst ((signsV z).map V.str))))
theorem op_listG (hc : X.calm = true) (hC : (X.prog, X.w) = C) : CallR X (.type "list") (rListG C X.K) := (call_list_of.or (call_listD hc)).or ((call_listN hc hC).or (call_list_signs hc))
theorem kV_r {k : Key} : R C H (kV k) (kD k) := by
  cases k with
  | inl i => exact .int i
  | inr x => exact .str x
theorem keys_ra : ∀ {kvs : List (Key × V)} {es : List (Key × PyData)}, KR C H kvs es → RA C H (kvs.map fun kv => kV kv.1) ((es.map fun e => (kD e.1, e.2)).map (·.1))
  | _, _, .nil => .nil
  | _, _, .cons r t => .cons (by
      dsimp only; rw [r.1]
      exact kV_r) (keys_ra t)
theorem keysN_ra : ∀ {xs : List (NestedKey × Addr × Value)} {es : List (NestedKey × PyData)}, Paired (ER C H) xs es → RA C H (xs.map fun x => V.ref x.2.1) ((es.map fun e => (nkD e.1, e.2)).map (·.1))
  | _, _, .nil => .nil
  | _, _, .cons r t => .cons (by
      dsimp only; rw [← r.1]
      exact r.2.1) (keysN_ra t)
theorem strs_ra : ∀ xs : List Str, RA C H (xs.map V.str) (xs.map PyData.str)
  | [] => .nil
  | x :: xs => .cons (.str x) (strs_ra xs)
theorem dc_list : DCl C K (rListG C K) listD := fun H xs as o h e Q q => by
  unfold listD at e
  split at e
  · next ds =>
    cases e
    obtain ⟨x, rfl, hx⟩ := h.one
    obtain ⟨p, vs, rfl, h1, h2⟩ := hx.list
    exact .inl (.inl ⟨p, vs, rfl, .inl (.inl h1), fun l hp => q l H vs (Same.refl H) hp h2⟩)
  · next ds =>
    cases e
    obtain ⟨x, rfl, hx⟩ := h.one
    obtain ⟨_, p, vs, rfl, h1, h2⟩ := hx.tuple
    exact .inl (.inl ⟨p, vs, rfl, .inr h1.sqT, fun l hp => q l H vs (Same.refl H) hp h2⟩)
  · next l =>
    split at e
    · next hl =>
      cases e
      obtain ⟨x, rfl, hx⟩ := h.one
      rcases hx.dict with ⟨p, kvs, es, rfl, h1, h2, rfl⟩ | ⟨p, xs, es, rfl, h1, h2, rfl⟩
      · exact .inl (.inr ⟨p, kvs, rfl, h1, fun l hp => q l H _ (Same.refl H) hp (keys_ra h2)⟩)
      · exact .inr (.inl ⟨p, xs, es, rfl, h1, h2, by rw [Paired.length h2.ent]; simpa using hl, fun l hp => q l H _ (Same.refl H) hp (keysN_ra h2.ent)⟩)
    · cases e
  · next z =>
    split at e
    · next hl =>
      cases e
      obtain ⟨x, rfl, hx⟩ := h.one
      rw [hx.str]
      exact .inr (.inr ⟨z, rfl, hl, fun l hp => q l H _ (Same.refl H) hp (strs_ra _)⟩)
    · cases e
  · cases e
/-! sorted, min, max -/
/-- may be put in sequence -/
def okSort (ds : List PyData) : Bool := ds.all (fun x => ds.all fun y => alike x y) && ds.all noDict && ds.all fun d => decide (d.depth ≤ 8)
def sortable (ds : List PyData) : Bool := (ds.all fun d => match d with
  | .tuple (_ :: _) => true
  | _ => false) || ds.all fun d => match d with
  | .none => false
  | .tuple _ => false
  | _ => true
theorem sortable_ok {ds : List PyData} (h : sortable ds = true) : Sortable ds := by
  unfold sortable at h
  rcases Bool.or_eq_true_iff.mp h with h | h
  · refine .inl fun d hd => ?_
    have := List.all_eq_true.mp h d hd
    split at this
    · exact ⟨_, _, rfl⟩
    · cases this
  · refine .inr fun d hd => ?_
    have := List.all_eq_true.mp h d hd
    constructor
    · rintro rfl
      cases this
    · rintro xs rfl
      cases this
/-- the items in sequence -/
def sortP (ds : List PyData) : List PyData := ds.mergeSort (dataLe false id)
def sortedD : List PyData → Option Res
  | [.list xs] => if okSort xs && sortable xs then some (.l (sortP xs)) else none
  | [.tuple xs] => if okSort xs && sortable xs then some (.l (sortP xs)) else none
  | _ => none
theorem zip_fst {α β : Type} : ∀ {l : List α} {m : List β}, l.length = m.length → (l.zip m).map (·.1) = l
  | [], [], _ => rfl
  | [], _ :: _, h => by simp at h
  | _ :: _, [], h => by simp at h
  | a :: l, b :: m, h => by rw [List.zip_cons_cons, List.map_cons, zip_fst (by simpa using h)]
theorem zip_snd {α β : Type} : ∀ {l : List α} {m : List β}, l.length = m.length → (l.zip m).map (·.2) = m
  | [], [], _ => rfl
  | [], _ :: _, h => by simp at h
  | _ :: _, [], h => by simp at h
  | a :: l, b :: m, h => by rw [List.zip_cons_cons, List.map_cons, zip_snd (by simpa using h)]
theorem RA.zip : ∀ {vs : List V} {ds : List PyData}, RA C H vs ds → ∀ b ∈ vs.zip ds, R C H b.1 b.2
  | _, _, .nil, _, h => by cases h
  | _, _, .cons a t, b, h => by
    rcases List.mem_cons.mp h with rfl | h
    · exact a
    · exact RA.zip t b h
theorem RA.of_mem : ∀ {l : List (V × PyData)}, (∀ b ∈ l, R C H b.1 b.2) → RA C H (l.map (·.1)) (l.map (·.2))
  | [], _ => .nil
  | b :: l, h => .cons (h b (List.mem_cons_self ..)) (RA.of_mem fun c hc => h c (List.mem_cons_of_mem _ hc))
theorem okSort_at {ds : List PyData} (h : okSort ds = true) : AllAlike ds ∧ (∀ d ∈ ds, noDict d = true) ∧ ∀ d ∈ ds, d.depth ≤ 8 := by
  unfold okSort at h
  simp only [Bool.and_eq_true] at h
  exact ⟨fun x hx y hy => List.all_eq_true.mp (List.all_eq_true.mp h.1.1 x hx) y hy, fun d hd => List.all_eq_true.mp h.1.2 d hd, fun d hd => of_decide_eq_true (List.all_eq_true.mp h.2 d hd)⟩
theorem dc_sorted : DCl C K (rSortD K) sortedD := fun H xs as o h e Q q => by
  have go : ∀ {p : Addr} {vs : List V} {ds : List PyData}, (SqL K H p vs ∨ SqT K H p vs) → RA C H vs ds → okSort ds = true → sortable ds = true → ResK C H Q (.l (sortP ds)) → rSortD K [.ref p] H Q := fun {p vs ds} hs hr h1 h2 q => by
    obtain ⟨a1, a2, a3⟩ := okSort_at h1
    have hl := hr.length
    refine ⟨⟨p, vs.zip ds, rfl, by rw [zip_fst hl]; exact hs, fun b hb => (hr.zip b hb).dp (a2 _ (List.of_mem_zip hb).2), by rw [zip_snd hl]; exact a1, by rw [zip_snd hl]; exact sortable_ok h2, fun b hb => a3 _ (List.of_mem_zip hb).2, fun l hp => ?_⟩⟩
    have e1 : ((vs.zip ds).mergeSort (dataLe false (·.2))).map (·.2) = sortP ds := by
      unfold sortP
      conv => rhs; rw [← zip_snd hl]
      exact List.map_mergeSort (f := fun b : V × PyData => b.2) fun a _ b _ => rfl
    have e2 := RA.of_mem (C := C) (H := H) (l := (vs.zip ds).mergeSort (dataLe false (·.2))) fun b hb => hr.zip b (List.mem_mergeSort.mp hb)
    rw [e1] at e2
    exact q l H _ (Same.refl H) hp e2
  unfold sortedD at e
  split at e
  · next ds =>
    split at e
    · next hh =>
      cases e
      rw [Bool.and_eq_true] at hh
      obtain ⟨x, rfl, hx⟩ := h.one
      obtain ⟨p, vs, rfl, h1, h2⟩ := hx.list
      exact go (.inl (.inl h1)) h2 hh.1 hh.2 q
    · cases e
  · next ds =>
    split at e
    · next hh =>
      cases e
      rw [Bool.and_eq_true] at hh
      obtain ⟨x, rfl, hx⟩ := h.one
      obtain ⟨_, p, vs, rfl, h1, h2⟩ := hx.tuple
      exact go (.inr h1.sqT) h2 hh.1 hh.2 q
    · cases e
  · cases e
def notNone : PyData → Bool
  | .none => false
  | _ => true
def bestD (D : PyData → List PyData → PyData) : List PyData → Option Res
  | [.list (x :: xs)] => if okSort (x :: xs) && (x :: xs).all notNone then some (.d (D x xs)) else none
  | [.tuple (x :: xs)] => if okSort (x :: xs) && (x :: xs).all notNone then some (.d (D x xs)) else none
  | [x, y] => if okSort [x, y] && [x, y].all notNone && flatD x && flatD y then some (.d (D x [y])) else none
  | _ => none
def rBestG (D : PyData → List PyData → PyData) (K : PySem.W.Frag) : List V → Hp → VK → Prop := fun xs H Q => rBestD D K xs H Q ∨ rBest2D D K xs H Q
theorem op_minG (hc : X.calm = true) (hu : X.A.units + 64 < cLine) : CallR X (.builtin "min") (rBestG minD X.K) := (cr_minD hc hu).or (cr_min2D hc hu)
theorem op_maxG (hc : X.calm = true) (hu : X.A.units + 64 < cLine) : CallR X (.builtin "max") (rBestG maxD X.K) := (cr_maxD hc hu).or (cr_max2D hc hu)
theorem alike_all {ds : List PyData} (h : okSort ds = true) (n : ds.all notNone = true) : AlikeAll ds := ⟨fun x hx y hy => (okSort_at h).1 x hx y hy, fun x hx z => by
  have := List.all_eq_true.mp n x hx
  rw [z] at this
  cases this⟩
theorem dc_best {D : PyData → List PyData → PyData} (hm : ∀ xs x, D x xs ∈ x :: xs) : DCl C K (rBestG D K) (bestD D) := fun H xs as o h e Q q => by
  have go : ∀ {p : Addr} {vs : List V} {d : PyData} {ds : List PyData}, (SqL K H p vs ∨ SqT K H p vs) → RA C H vs (d :: ds) → okSort (d :: ds) = true → (d :: ds).all notNone = true → ResK C H Q (.d (D d ds)) → rBestG D K [.ref p] H Q := fun {p vs d ds} hs hr h1 h2 q => by
    obtain ⟨a1, a2, a3⟩ := okSort_at h1
    cases hr with
    | cons r t =>
      rename_i v ws
      have hl := t.length
      have hr' : RA C H (v :: ws) (d :: ds) := .cons r t
      refine .inl ⟨p, (v, d), ws.zip ds, rfl, ?_, ?_, ?_, ?_, ?_⟩
      · rw [List.map_cons, zip_fst hl]
        exact hs
      · intro b hb
        have hb' : b ∈ (v :: ws).zip (d :: ds) := hb
        exact (hr'.zip b hb').dp (a2 _ (List.of_mem_zip hb').2)
      · rw [List.map_cons, zip_snd hl]
        exact alike_all h1 h2
      · intro b hb
        have hb' : b ∈ (v :: ws).zip (d :: ds) := hb
        exact a3 _ (List.of_mem_zip hb').2
      · intro b hb eb
        have hb' : b ∈ (v :: ws).zip (d :: ds) := hb
        rw [zip_snd hl] at eb
        have r2 := hr'.zip b hb'
        rw [eb] at r2
        exact same0 q r2
  unfold bestD at e
  split at e
  · next d ds =>
    split at e
    · next hh =>
      cases e
      rw [Bool.and_eq_true] at hh
      obtain ⟨x, rfl, hx⟩ := h.one
      obtain ⟨p, vs, rfl, h1, h2⟩ := hx.list
      exact go (.inl (.inl h1)) h2 hh.1 hh.2 q
    · cases e
  · next d ds =>
    split at e
    · next hh =>
      cases e
      rw [Bool.and_eq_true] at hh
      obtain ⟨x, rfl, hx⟩ := h.one
      obtain ⟨_, p, vs, rfl, h1, h2⟩ := hx.tuple
      exact go (.inr h1.sqT) h2 hh.1 hh.2 q
    · cases e
  · next a b =>
    split at e
    · next hh =>
      cases e
      simp only [Bool.and_eq_true] at hh
      obtain ⟨⟨⟨h1, h2⟩, fa⟩, fb⟩ := hh
      obtain ⟨x, y, rfl, hx, hy⟩ := h.two
      obtain ⟨a1, a2, a3⟩ := okSort_at h1
      have ra : ∀ {v : V} {d : PyData}, RV C K H v d → flatD d = true → R C H v d := fun {v d} r f => by
        have := r.flat f
        rw [this.1]
        cases d with
        | none => exact .non
        | bool b => exact .bl b
        | int i => exact .int i
        | str x => exact .str x
        | _ => cases f
      exact .inr ⟨x, y, a, b, rfl, hx.dp (a2 _ (by simp)), hy.dp (a2 _ (by simp)), alike_all h1 h2, a3 _ (by simp), a3 _ (by simp), fun z => same0 q (by rw [z]; exact ra hx fa), fun z => same0 q (by rw [z]; exact ra hy fb)⟩
    · cases e
  · cases e
theorem dc_min : DCl C K (rBestG minD K) (bestD minD) := dc_best minD_mem
theorem dc_max : DCl C K (rBestG maxD K) (bestD maxD) := dc_best maxD_mem
end
end G
/-! isinstance, is None, chains, index, get, calls by keyword, raise that is never come to -/
namespace G
open PySem PyProof.Rows L2 HD
/-! isinstance -/
def tyD : PyData → String
  | .none => "NoneType"
  | .bool _ => "bool"
  | .int _ => "int"
  | .str _ => "str"
  | .list _ => "list"
  | .tuple _ => "tuple"
  | .dict _ => "dict"
inductive Ty where
  | tup | int | str | bl | lst
def Ty.nm : Ty → String
  | .tup => "tuple"
  | .int => "int"
  | .str => "str"
  | .bl => "bool"
  | .lst => "list"
def isD : Ty → PyData → Bool
  | .tup, .tuple _ => true
  | .int, .int _ => true
  | .int, .bool _ => true
  | .str, .str _ => true
  | .bl, .bool _ => true
  | .lst, .list _ => true
  | _, _ => false
theorem isD_kit (T : Ty) (d : PyData) : kitB (tyD d) T.nm = some (isD T d) := by
  cases T <;> cases d <;> (simp only [tyD, Ty.nm, isD]; decide +kernel)
def mIsi (T : Ty) (m : Mi Val) : Mi Val := fun ρ => (fz m ρ).bind fun a => match a.1 with
  | .d d => some (.d (.bool (isD T d)), a.2)
  | .b _ => none
section
variable {X : Cx} {C : Program × World} {a b c e f o : Expr} {m mo mk mx ma mb mc : Mi Val} {pos apos cpos p : Pos}
theorem R.tyx {H : Hp} {K : PySem.W.Frag} {v : V} {d : PyData} (h : R C H v d) (nd : noDict d = true) : TyX K H v (.type (tyD d)) := by
  cases h with
  | non => exact .base .non
  | bl x => exact .base (.bl x)
  | int i => exact .base (.int i)
  | str x => exact .base (.str x)
  | tup h _ =>
    obtain ⟨o, h, _⟩ := h
    exact .fTuple h
  | lst h _ =>
    obtain ⟨o, h⟩ := h
    exact .base (.frz h)
  | dK _ _ _ _ => cases nd
  | dN _ _ _ _ _ _ _ => cases nd
def noDict1 : PyData → Bool
  | .dict _ => false
  | _ => true
theorem R.tyx1 {H : Hp} {K : PySem.W.Frag} {v : V} {d : PyData} (h : R C H v d) (nd : noDict1 d = true) : TyX K H v (.type (tyD d)) := by
  cases h with
  | non => exact .base .non
  | bl x => exact .base (.bl x)
  | int i => exact .base (.int i)
  | str x => exact .base (.str x)
  | tup h _ =>
    obtain ⟨o, h, _⟩ := h
    exact .fTuple h
  | lst h _ =>
    obtain ⟨o, h⟩ := h
    exact .base (.frz h)
  | dK _ _ _ _ => cases nd
  | dN _ _ _ _ _ _ _ => cases nd
def mIsi2 (T : Ty) (m : Mi Val) : Mi Val := fun ρ => (fz m ρ).bind fun a => match a.1 with
  | .d d => if noDict1 d then some (.d (.bool (isD T d)), a.2) else none
  | .b _ => none
theorem gx_isi {p2 : Pos} (T : Ty) (hg : Gl X "isinstance") (hm : X.mg "isinstance" = none) (hv : bootBuiltins "isinstance" = some (.builtin "isinstance")) (he : PE X e (tX C m)) {x : Str} (hx : x = T.nm) (hT : PE X (.Name x p2) (tC (.ty T.nm)))
    (h1 : starEach [e, .Name x p2] X.env = (false, eval e X.env) :: starEach [.Name x p2] X.env := by rfl) (h2 : starEach [.Name x p2] X.env = (false, eval (.Name x p2) X.env) :: starEach [] X.env := by rfl) (hpl : (backTo pos (starEach [.Name x p2] X.env)).any (·.1) = false := by rfl) :
    PE X (.Call (.Name "isinstance" p) [e, .Name x p2] [] pos) (tX C (mIsi2 T m)) :=
  pe_wk (pe_callB call_isi hg hm hv (pa_cons (pe_fz he) (pa_cons hT pa_nil h2) h1) (by decide) (by decide) h1 hpl) fun σ H Q ⟨B, H0, ρ, v, ρ', sr, em, q⟩ => by
    obtain ⟨⟨a, ρ1⟩, g1, em⟩ := Option.bind_eq_some_iff.mp em
    cases a with
    | b j => cases em
    | d d =>
      dsimp only at em
      split at em
      · next nd =>
        cases em
        refine ⟨B, H0, ρ, .d d, _, sr, g1, fun v H1 s1 a1 f1 => ?_⟩
        exact ⟨v, .ty T.nm, .type (tyD d), .type T.nm, isD T d, rfl, .ty _, R.tyx1 a1 nd, kit_ty (isD_kit T d), q _ H1 s1 (.bl _) f1⟩
      · cases em
/-! is None -/
def isNon : PyData → Bool
  | .none => true
  | _ => false
theorem R.isNon {H : Hp} {v : V} {d : PyData} (h : R C H v d) : decide (v = .non) = isNon d := by
  cases h <;> rfl
def mIsN (neg : Bool) (m : Mi Val) : Mi Val := fun ρ => (fz m ρ).bind fun a => match a.1 with
  | .d d => some (.d (.bool (if neg then !isNon d else isNon d)), a.2)
  | .b _ => none
theorem gc_isN {j p'} (ha : PE X a (tX C m)) : PC X .Is a (.Constant .none j p') (tX C (mIsN false m)) := ⟨fun pins s σ H Q I ⟨B, H0, ρ, v, ρ', sr, em, q⟩ => by
  obtain ⟨⟨x, ρ1⟩, g1, em⟩ := Option.bind_eq_some_iff.mp em
  cases x with
  | b j => cases em
  | d d =>
    cases em
    refine (pc_isN (pe_fz ha)).run pins s σ H Q I ⟨B, H0, ρ, .d d, ρ1, sr, g1, fun v H1 s1 a1 f1 => ?_⟩
    show Q (.bl (decide (v = .non))) H1
    rw [R.isNon a1]
    exact q _ H1 s1 (.bl _) f1⟩
theorem gc_notN {j p'} (ha : PE X a (tX C m)) : PC X .IsNot a (.Constant .none j p') (tX C (mIsN true m)) := ⟨fun pins s σ H Q I ⟨B, H0, ρ, v, ρ', sr, em, q⟩ => by
  obtain ⟨⟨x, ρ1⟩, g1, em⟩ := Option.bind_eq_some_iff.mp em
  cases x with
  | b j => cases em
  | d d =>
    cases em
    refine (pc_notN (pe_fz ha)).run pins s σ H Q I ⟨B, H0, ρ, .d d, ρ1, sr, g1, fun v H1 s1 a1 f1 => ?_⟩
    show Q (.bl (!decide (v = .non))) H1
    rw [R.isNon a1]
    exact q _ H1 s1 (.bl _) f1⟩
/-! a op b op c -/
def mChain (f g : PyData → PyData → Option Res) (ma mb mc : Mi Val) : Mi Val := fun ρ => (fz ma ρ).bind fun a => (fz mb a.2).bind fun b => (a.1.res b.2).bind fun x => (b.1.res b.2).bind fun y => (f x y).bind fun o => match o with
  | .d (.bool true) => (fz mc b.2).bind fun c => (b.1.res c.2).bind fun y => (c.1.res c.2).bind fun z => (g y z).map fun o => (o.val, c.2)
  | .d (.bool false) => some (.d (.bool false), b.2)
  | _ => none
theorem tChain_of {r r' : R2} {f g : PyData → PyData → Option Res} {K : PySem.W.Frag} (h1 : DOp C K r f) (h2 : DOp C K r' g) {σ : L2.St} {H : Hp} {Q : VK} (h : tX C (mChain f g ma mb mc) σ H Q) : tChain r r' (tM C (fz ma)) (tM C (fz mb)) (tM C (fz mc)) σ H Q := by
  obtain ⟨B, H0, ρ, v, ρ', sr, em, q⟩ := h
  obtain ⟨⟨av, ρ1⟩, e1, em⟩ := Option.bind_eq_some_iff.mp em
  obtain ⟨⟨bv, ρ2⟩, e2, em⟩ := Option.bind_eq_some_iff.mp em
  obtain ⟨x, e3, em⟩ := Option.bind_eq_some_iff.mp em
  obtain ⟨y, e4, em⟩ := Option.bind_eq_some_iff.mp em
  obtain ⟨o, e5, em⟩ := Option.bind_eq_some_iff.mp em
  refine ⟨B, H0, ρ, av, ρ1, sr, e1, fun x1 H1 s1 a1 f1 => ?_⟩
  refine ⟨B, H0, ρ1, bv, ρ2, s1, e2, fun y1 H2 s2 b2 f2 => ?_⟩
  refine h1 H2 x1 y1 x y o (res_rv s2 (a1.mono f2) e3) (res_rv s2 b2 e4) e5 _ ?_
  cases o with
  | l xs => cases em
  | d w => cases w with
    | bool k =>
      intro v3 H3 sm r3
      cases r3
      refine ⟨k, rfl, ?_⟩
      have s3 := s2.same sm
      cases k with
      | true =>
        rw [if_pos rfl]
        obtain ⟨⟨cv, ρ3⟩, e6, em⟩ := Option.bind_eq_some_iff.mp em
        obtain ⟨y', e7, em⟩ := Option.bind_eq_some_iff.mp em
        obtain ⟨z, e8, em⟩ := Option.bind_eq_some_iff.mp em
        obtain ⟨o', e9, em⟩ := Option.map_eq_some_iff.mp em
        cases em
        refine ⟨B, H0, ρ2, cv, ρ3, s3, e6, fun z1 H4 s4 c4 f4 => ?_⟩
        exact h2 H4 y1 z1 y' z o' (res_rv s4 (b2.mono ((Fm.of sm).trans f4)) e7) (res_rv s4 c4 e8) e9 Q (val_of s4 (f1.trans (f2.trans ((Fm.of sm).trans f4))) q)
      | false =>
        rw [if_neg (by decide)]
        cases em
        exact q _ H3 s3 (.bl _) (f1.trans (f2.trans (Fm.of sm)))
    | _ => cases em
theorem gx_chain {op op' : CmpOp} {r r' : R2} {f g : PyData → PyData → Option Res} (ho : OpR X (compareOp op) r) (ho' : OpR X (compareOp op') r') (h1 : DOp C X.K r f) (h2 : DOp C X.K r' g) (ha : PE X a (tX C ma)) (hb : PE X b (tX C mb)) (hc : PE X c (tX C mc))
    (hm : lastMarks [op, op'] [b, c] = false := by with_unfolding_all rfl) : PE X (.Compare a [op, op'] [b, c] pos) (tX C (mChain f g ma mb mc)) :=
  pe_wk (pe_chain ho ho' (pe_fz ha) (pe_fz hb) (pe_fz hc) hm) fun _ _ _ h => tChain_of h1 h2 h
theorem gt_chain {op op' : CmpOp} {r r' : R2} {f g : PyData → PyData → Option Res} (ho : OpR X (compareOp op) r) (ho' : OpR X (compareOp op') r') (h1 : DOp C X.K r f) (h2 : DOp C X.K r' g) (ha : PE X a (tX C ma)) (hb : PE X b (tX C mb)) (hc : PE X c (tX C mc))
    (hm : lastMarks [op, op'] [b, c] = false := by with_unfolding_all rfl) : PT X (.Compare a [op, op'] [b, c] pos) (tXT C (mtst (mChain f g ma mb mc))) :=
  pt_wk (pt_chain ho ho' (pe_fz ha) (pe_fz hb) (pe_fz hc) hm) fun _ _ _ h => tChain_of h1 h2 (tst_of h)
/-! .index -/
def strsOf : List PyData → Option (List Str)
  | [] => some []
  | .str x :: ds => (strsOf ds).map fun xs => x :: xs
  | _ :: _ => none
theorem strsOf_some : ∀ {ds : List PyData} {is : List Str}, strsOf ds = some is → ds = is.map PyData.str
  | [], is, h => by
    cases h
    rfl
  | .str x :: ds, is, h => by
    obtain ⟨xs, h1, rfl⟩ := Option.map_eq_some_iff.mp (show (strsOf ds).map (fun xs => x :: xs) = some is from h)
    rw [strsOf_some h1]
    rfl
  | .none :: _, _, h => by cases h
  | .bool _ :: _, _, h => by cases h
  | .int _ :: _, _, h => by cases h
  | .list _ :: _, _, h => by cases h
  | .tuple _ :: _, _, h => by cases h
  | .dict _ :: _, _, h => by cases h
theorem RA.strs {H : Hp} : ∀ {vs : List V} {is : List Str}, RA C H vs (is.map PyData.str) → vs = is.map V.str
  | [], [], _ => rfl
  | _, _ :: _, .cons r t => by
    cases r
    rw [RA.strs t]
    rfl
def firstP {α : Type} (p : α → Bool) : List α → Option Nat
  | [] => none
  | x :: xs => if p x then some 0 else (firstP p xs).map (· + 1)
theorem firstP_some {α : Type} {p : α → Bool} : ∀ {xs : List α} {j : Nat}, firstP p xs = some j → ∃ z, xs[j]? = some z ∧ p z = true ∧ ∀ (m : Nat) (z' : α), m < j → xs[m]? = some z' → p z' = false
  | [], j, h => by cases h
  | x :: xs, j, h => by
    unfold firstP at h
    split at h
    · next hp =>
      cases h
      exact ⟨x, rfl, hp, fun m z' hm => by omega⟩
    · next hp =>
      obtain ⟨k, h1, rfl⟩ := Option.map_eq_some_iff.mp h
      obtain ⟨z, h2, h3, h4⟩ := firstP_some h1
      refine ⟨z, by simpa using h2, h3, fun m z' hm e => ?_⟩
      cases m with
      | zero =>
        cases e
        simpa using hp
      | succ m => exact h4 m z' (by omega) (by simpa using e)
def idxD (x y : PyData) : Option Nat := match x with
  | .list ds => if noDictAll ds && noDict y && SeqAt.shaped (.list ds) && SeqAt.shaped y then firstP (fun z => PyData.eqv z y) ds else none
  | .tuple ds => (strsOf ds).bind fun is => match y with
    | .str z => firstP (fun x => decide (x = z)) is
    | _ => none
  | _ => none
def mIdx (mo my : Mi Val) : Mi Val := fun ρ => (fz mo ρ).bind fun a => (a.1.res a.2).bind fun x0 => (fz my a.2).bind fun b => (a.1.res b.2).bind fun x => (chk (tyD x = tyD x0)).bind fun _ => (b.1.res b.2).bind fun y => (idxD x y).map fun j => (.d (.int (j : Nat)), b.2)
theorem gx_idx (hu : X.A.units + 65 < cLine) (ho : PE X o (tX C mo)) (he : PE X e (tX C mx)) (hC : (X.prog, X.w) = C := by rfl)
    (hbase : attributeBase o "index" X.env (eval o X.env) = eval o X.env := by rfl)
    (hfew : ((backTo cpos (starEach [e] X.env)).all (fun x => !x.1) && (backToKw cpos (keywordEach [] X.env)).all (fun x => x.1.isSome)
      && decide (([e] : List Expr).length + ([] : List Keyword).length + (if ([] : List Keyword).isEmpty then 0 else 1) < 30)) = true := by rfl)
    (hline : (apos.endLine == cpos.line) = true := by rfl) (hs : starEach [e] X.env = (false, eval e X.env) :: starEach [] X.env := by rfl) (hplain : (backTo cpos (starEach [] X.env)).any (·.1) = false := by rfl) :
    PE X (.Call (.Attribute o "index" apos) [e] [] cpos) (tX C (mIdx mo mx)) := by
  subst hC
  refine ⟨fun pins s σ H Q I ⟨B, H0, ρ, v, ρ', sr, em, q⟩ => ?_⟩
  obtain ⟨⟨av, ρ1⟩, e1, em⟩ := Option.bind_eq_some_iff.mp em
  obtain ⟨x0, e0, em⟩ := Option.bind_eq_some_iff.mp em
  obtain ⟨⟨bv, ρ2⟩, e2, em⟩ := Option.bind_eq_some_iff.mp em
  obtain ⟨x, e3, em⟩ := Option.bind_eq_some_iff.mp em
  obtain ⟨_, ety, em⟩ := Option.bind_eq_some_iff.mp em
  obtain ⟨y, e4, em⟩ := Option.bind_eq_some_iff.mp em
  obtain ⟨j, e5, em⟩ := Option.map_eq_some_iff.mp em
  cases em
  have ety := chk_some ety
  have hA := (pa_cons (pe_fz he) pa_nil hs).run cpos
  refine wpAny_Call_method_late hbase hfew hline rfl (thn ((pe_fz ho).run pins s σ H (fun v H' => SR (X.prog, X.w) B H0 σ H' ρ1 ∧ AvOk (X.prog, X.w) σ H' v av ∧ Fm H H') I ⟨B, H0, ρ, _, _, sr, e1, fun v H' s' a' f' => ⟨s', a', f'⟩⟩) fun u s1 ⟨xv, H1, I1, rx, s1', a1', f1'⟩ => ?_)
  have hA2 := hA pins s1 σ H1 (fun vs H' => ∃ yv, vs = [yv] ∧ SR (X.prog, X.w) B H0 σ H' ρ2 ∧ AvOk (X.prog, X.w) σ H' yv bv ∧ Fm H1 H') I1 ⟨B, H0, ρ1, _, _, s1', e2, fun v H' s' a' f' => ⟨v, rfl, s', a', f'⟩⟩
  have hx0 := res_rv (K := X.K) s1' a1' e0
  rw [hs] at hA2 ⊢
  cases x with
  | list ds =>
    cases x0 with
    | list ds0 =>
      obtain ⟨p, vs0, rfl, h1, h2⟩ := hx0.list
      obtain ⟨t1, t2⟩ := tyV_is (T := "list") I1 rx (.inl ⟨rfl, vs0, .inl h1⟩)
      refine ⟨"list", "list.index", PySem.F.plainAttrs_list, PySem.F.slot_list_index, PySem.F.type_list_index, t1, t2, ?_⟩
      refine Calls.callWith_builtin (by show (false || (backTo cpos (starEach [] X.env)).any (·.1)) = false; rw [hplain] <;> rfl) (Calls.evalArgs_plain ?_)
      refine thn hA2 fun us s2 ⟨vs, H2, I2, r2, yv, e6, s2', b2', f2'⟩ => ?_
      subst e6
      have hx := res_rv (K := X.K) s2' (a1'.mono f2') e3
      have hy := res_rv (K := X.K) s2' b2' e4
      unfold idxD at e5
      dsimp only at e5
      split at e5
      · next hh =>
        simp only [Bool.and_eq_true] at hh
        obtain ⟨⟨⟨n1, n2⟩, n3⟩, n4⟩ := hh
        obtain ⟨z, g1, g2, g3⟩ := firstP_some e5
        exact mt_indexD hu pins s2 σ H2 (.ref p) _ u us Q I2 rx r2 ⟨p, yv, y, ds, j, z, rfl, rfl, hx.dp n1, hy.dp n2, n3, n4, g1, g2, g3, q _ H2 s2' (.int _) (f1'.trans f2')⟩
      · cases e5
    | _ => simp [tyD] at ety
  | tuple ds =>
    cases x0 with
    | tuple ds0 =>
      obtain ⟨_, p, vs0, rfl, h1, h2⟩ := hx0.tuple
      obtain ⟨ob, g1, g2, g3⟩ := h1
      have hget : s1.heap.get? p = some ob := (I1.hok p _ g1).1
      cases rx
      refine ⟨"tuple", "tuple.index", PySem.F.plainAttrs_tuple, PySem.F.slot_tuple_index, PySem.F.type_tuple_index, ⟨ob, hget, g2⟩, fun a e => by cases e; exact ⟨ob, hget, g3⟩, ?_⟩
      refine Calls.callWith_builtin (by show (false || (backTo cpos (starEach [] X.env)).any (·.1)) = false; rw [hplain] <;> rfl) (Calls.evalArgs_plain ?_)
      refine thn hA2 fun us s2 ⟨vs, H2, I2, r2, yv, e6, s2', b2', f2'⟩ => ?_
      subst e6
      have hx := res_rv (K := X.K) s2' (a1'.mono f2') e3
      have hy := res_rv (K := X.K) s2' b2' e4
      obtain ⟨is, e7, e5⟩ := Option.bind_eq_some_iff.mp e5
      cases y with
      | str z =>
        obtain ⟨z', g1, g2, g3⟩ := firstP_some e5
        have := of_decide_eq_true g2
        subst this
        rw [strsOf_some e7] at hx
        obtain ⟨_, p', vs1, e8, h3, h4⟩ := hx.tuple
        cases e8
        have ev := RA.strs h4
        subst ev
        have ey := hy.str
        subst ey
        exact mt_tup_index pins s2 σ H2 (.ref p) _ _ us Q I2 rfl r2 ⟨p, is, z', j, rfl, rfl, h3.sqT, g1, fun m hm z => by have := g3 m _ hm z; simp at this, q _ H2 s2' (.int _) (f1'.trans f2')⟩
      | _ => cases e5
    | _ => simp [tyD] at ety
  | _ => cases e5
/-! d.get(k, x) -/
def mDGetX (mo mk mx : Mi Val) : Mi Val := fun ρ => (fz mo ρ).bind fun a => (a.1.res a.2).bind fun d0 => (chk (tyD d0 = "dict")).bind fun _ => (fz mk a.2).bind fun b => (fz mx b.2).bind fun c => (a.1.res c.2).bind fun d => match d, b.1, c.1 with
  | .dict l, .d k, .d x => (hasD l k).map fun _ => (.d ((lookD l k).getD x), c.2)
  | _, _, _ => none
theorem dict_ty {pins : List (Addr × Obj)} {σ : L2.St} {H : Hp} {s : Shared} (I : Inv X pins σ H s) {x : V} {l : List (PyData × PyData)} (hx : RV (X.prog, X.w) X.K H x (.dict l)) : ∃ p, x = .ref p ∧ s.TypeIs (.ref p) "dict" ∧ ∃ ob, s.heap.get? p = some ob ∧ ob.dict = none := by
  rcases hx.dict with ⟨p, kvs, es, rfl, h1, h2, rfl⟩ | ⟨p, xs, es, rfl, h1, h2, rfl⟩
  · obtain ⟨z, hd, vs, rel, dd⟩ := h1.ok I.hok
    obtain ⟨ob, _, _, e1, e2, _⟩ := id dd
    exact ⟨p, rfl, dd.typeIs, ob, e1, e2.2.1⟩
  · obtain ⟨dd, hd⟩ := dn_dict I h1 h2
    obtain ⟨ob, _, _, e1, e2, _⟩ := id dd
    exact ⟨p, rfl, dd.typeIs, ob, e1, e2.2.1⟩
theorem gx_dget2 (hu : X.A.units + 65 < cLine) (ho : PE X o (tX C mo)) (he : PE X e (tX C mk)) (hf : PE X f (tX C mx)) (m : M2 X o "get" apos e f cpos) (hC : (X.prog, X.w) = C := by rfl) : PE X (.Call (.Attribute o "get" apos) [e, f] [] cpos) (tX C (mDGetX mo mk mx)) := by
  subst hC
  refine ⟨fun pins s σ H Q I ⟨B, H0, ρ, v, ρ', sr, em, q⟩ => ?_⟩
  obtain ⟨⟨av, ρ1⟩, e1, em⟩ := Option.bind_eq_some_iff.mp em
  obtain ⟨d0, e0, em⟩ := Option.bind_eq_some_iff.mp em
  obtain ⟨_, ety, em⟩ := Option.bind_eq_some_iff.mp em
  have ety := chk_some ety
  obtain ⟨⟨kv, ρ2⟩, e2, em⟩ := Option.bind_eq_some_iff.mp em
  obtain ⟨⟨xv, ρ3⟩, e3, em⟩ := Option.bind_eq_some_iff.mp em
  obtain ⟨d, e4, em⟩ := Option.bind_eq_some_iff.mp em
  cases d0 with
  | dict l0 =>
    cases d with
    | dict l => cases kv with
      | b _ => cases em
      | d k => cases xv with
        | b _ => cases em
        | d x =>
          obtain ⟨bb, e5, em⟩ := Option.map_eq_some_iff.mp em
          cases em
          unfold hasD at e5
          split at e5
          · next g =>
            refine wpAny_Call_method m.base m.few m.line PySem.F.plainAttrs_dict PySem.F.slot_dict_get PySem.F.type_dict_get (thn ((pe_fz ho).run pins s σ H (fun v H' => SR (X.prog, X.w) B H0 σ H' ρ1 ∧ AvOk (X.prog, X.w) σ H' v av ∧ Fm H H') I ⟨B, H0, ρ, _, _, sr, e1, fun v H' s' a' f' => ⟨s', a', f'⟩⟩) fun u s1 ⟨xv, H1, I1, rx, s1', a1', f1'⟩ => ?_)
            obtain ⟨p, rfl, t1, t2⟩ := dict_ty I1 (res_rv (K := X.K) s1' a1' e0)
            obtain rfl : u = Value.ref p := rx
            refine ⟨t1, fun a e => by cases e; exact t2, ?_⟩
            rw [m.trees]
            refine Calls.callWith_builtin rfl (Calls.evalArgs_plain (Calls.spliced_cons (thn ((pe_fz he).run pins s1 σ H1 (fun v H' => SR (X.prog, X.w) B H0 σ H' ρ2 ∧ R (X.prog, X.w) H' v k ∧ Fm H1 H') I1 ⟨B, H0, ρ1, _, _, s1', e2, fun v H' s' a' f' => ⟨s', a', f'⟩⟩) fun iv s2 ⟨y, H2, I2, ry, s2', r2', f2'⟩ =>
              Calls.spliced_cons (thn ((pe_fz hf).run pins s2 σ H2 (fun v H' => SR (X.prog, X.w) B H0 σ H' ρ3 ∧ R (X.prog, X.w) H' v x ∧ Fm H2 H') I2 ⟨B, H0, ρ2, _, _, s2', e3, fun v H' s' a' f' => ⟨s', a', f'⟩⟩) fun fv s3 ⟨z, H3, I3, rz, s3', r3', f3'⟩ => Calls.spliced_nil ?_))))
            obtain ⟨p', e6, hd, ht, _, hh⟩ := d_cases I3 (res_rv s3' (a1'.mono (f2'.trans f3')) e4) (R.mono f3' r2') ry g
            cases e6
            have fA := f1'.trans (f2'.trans f3')
            have fin : ∀ (s4 : Shared) (w : Value) (r : Option V) (ov : Option Value), Inv X pins σ H3 s4 → RelO r ov → Found (X.prog, X.w) H3 (lookD l k) r → EP X pins σ Q (ov.getD fv) s4 := fun s4 w r ov I4 ro fo => by
              cases hl : lookD l k with
              | none =>
                rw [hl] at fo q
                cases r with
                | some _ => exact fo.elim
                | none =>
                  cases ov with
                  | some _ => exact ro.elim
                  | none => exact ⟨z, H3, I4, rz, q _ H3 s3' r3' fA⟩
              | some d1 =>
                rw [hl] at fo q
                cases r with
                | none => exact fo.elim
                | some v =>
                  obtain ⟨w', hw, rw'⟩ := RelO.some_of (v := v) ro
                  rw [hw]
                  exact ⟨v, H3, I4, rw', q _ H3 s3' fo fA⟩
            rcases hh with ⟨k', vs, hk, dd, r, hr, hf⟩ | ⟨nk, b, xs, rfl, hk, dd, r, hr, hf⟩
            · exact call_meetsIn PySem.F.slot_dict_get dd.typeIs PySem.F.entry_dict_get (PySem.F.args_dict_get_3 _ _ _) (meets_dict_get_default (mixKind X.prog X.w) p hk hd fv) ⟨_, dd.mapOf, fin _ fv _ _ (I3.tok _) hr hf⟩
            · exact call_meetsIn PySem.F.slot_dict_get dd.typeIs PySem.F.entry_dict_get (PySem.F.args_dict_get_3 _ _ _) (meetsH_dict_get_default (nestedKind X.prog X.w) p b hd fv) ⟨room9 hu, nk, xs, hk, dd, fin _ fv _ _ (I3.tok _) hr hf⟩
          · cases e5
    | _ => cases em
  | _ => simp [tyD] at ety
/-! f(b = .., a = ..) -/
def mCallR (mf : Mf) (ms : List (Mi Val)) : Mi Val := fun ρ => (mArgs ms ρ).bind fun r => (chk (bors r.1.reverse).Nodup).bind fun _ => (bindA r.2 0 r.1.reverse).bind fun ρ0 => (mf ρ0).bind fun q => (q.1.val r.1.reverse).bind fun v => (backA r.2 r.1.reverse q.2).map fun ρ2 => (v, ρ2)
theorem AvsOk.append {σ : L2.St} {H : Hp} : ∀ {vs ws : List V} {as bs : List AV}, AvsOk C σ H vs as → AvsOk C σ H ws bs → AvsOk C σ H (vs ++ ws) (as ++ bs)
  | _, _, _, _, .nil, h => h
  | _, _, _, _, .cons a t, h => .cons a (AvsOk.append t h)
theorem AvsOk.reverse {σ : L2.St} {H : Hp} : ∀ {vs : List V} {as : List AV}, AvsOk C σ H vs as → AvsOk C σ H vs.reverse as.reverse
  | _, _, .nil => .nil
  | _, _, .cons a t => by
    rw [List.reverse_cons, List.reverse_cons]
    exact (AvsOk.reverse t).append (.cons a .nil)
theorem Vals.rev : ∀ {vs : List V} {us : List Value}, Vals vs us → Vals vs.reverse us.reverse
  | _, _, .nil => .nil
  | _, _, .cons a t => by
    rw [List.reverse_cons, List.reverse_cons]
    exact (Vals.rev t).append (.cons a .nil)
def gRev {α : Type} (us zs : List α) : List α := match us with
  | [] => zs.reverse
  | _ => []
theorem PK_wk {ks : List Keyword} {t t' : TA} (h : PK X ks t) (w : ∀ σ H Q, t' σ H Q → t σ H Q) : PK X ks t' := ⟨fun pos pins s σ H Q I z => h.run pos pins s σ H Q I (w σ H Q z)⟩
theorem gk_nil : PK X [] (tAs C (mArgs [])) := PK_wk pk_nil fun σ H Q ⟨B, H0, ρ, v, ρ', sr, em, q⟩ => by
  cases em
  exact q [] H sr .nil (Fm.refl H)
theorem gk_cons {k : Option Str} {ks : List Keyword} {ms : List (Mi Val)} (ha : PE X e (tX C m)) (hr : PK X ks (tAs C (mArgs ms))) : PK X (⟨k, e, pos⟩ :: ks) (tAs C (mArgs (m :: ms))) := PK_wk (pk_cons (pe_fz ha) hr) fun σ H Q ⟨B, H0, ρ, v, ρ', sr, em, q⟩ => by
  unfold mArgs at em
  obtain ⟨⟨a, ρ1⟩, h1, em⟩ := Option.bind_eq_some_iff.mp em
  obtain ⟨⟨as, ρ2⟩, h2, em⟩ := Option.bind_eq_some_iff.mp em
  cases em
  refine ⟨B, H0, ρ, a, ρ1, sr, h1, fun x1 H1 s1 a1 f1 => ?_⟩
  exact ⟨B, H0, ρ1, as, ρ2, s1, h2, fun xs H2 s2 a2 f2 => q _ H2 s2 (.cons (a1.mono f2) a2) (f1.trans f2)⟩
/-! code that is never come to -/
theorem gs_never {st : Stmt} : PS X st (tS C fun _ => none) := ps_wk ps_never fun D σ H ⟨B, H0, ρ, o, sr, em, q⟩ => by cases em
end
end G
/-! calls by keyword, from the last to the first -/
namespace G
open PySem PyProof.Rows L2 HD
section
variable {X : Cx} {CX : CXT} {k n : Nat} {f : Addr} {fd : FuncData} {ps ks : List Str} {mf : Mf} {E : XK} {x : Str} {p pos : Pos} {kws : List Keyword} {C : Program × World} {ms : List (Mi Val)}
theorem gx_callKR (F : FnOk X.prog X.w X.K X.mg X.base CX k f fd ps (spG C n mf)) (hr : Room k X.A) (hg : Gl X x) (hm : X.mg x = some (.ref f)) (hk : PySem.W.keepIn X.K (.ref f) = true) (hb : KBinds X.K fd ps ks gRev gRev) (hx : Passes CX X E)
    (hkw : PK X kws (tAs C (mArgs ms))) (hl : ms.length = n := by rfl) (hall : (backToKw pos (keywordEach kws X.env)).all (·.1.isSome) = true := by rfl) (hks : (backToKw pos (keywordEach kws X.env)).filterMap (·.1) = ks := by rfl)
    (hdb : (x == ("__debug__" : Str)) = false := by decide) (hpl : ((backTo pos (starEach [] X.env)).any (·.1) || (backToKw pos (keywordEach kws X.env)).any (·.1.isNone)) = false := by rfl) :
    PE X (.Call (.Name x p) [] kws pos) (tX C (mCallR mf ms)) :=
  pe_wk (HX.pe_callK00 F hr hg hm hk hb hx hkw hall hks hdb hpl) fun σ H Q ⟨B, H0, ρ, v, ρ', sr, em, q⟩ => by
    obtain ⟨⟨as, ρ1⟩, h1, em⟩ := Option.bind_eq_some_iff.mp em
    obtain ⟨_, h2, em⟩ := Option.bind_eq_some_iff.mp em
    obtain ⟨ρ0, h3, em⟩ := Option.bind_eq_some_iff.mp em
    obtain ⟨⟨r, q1⟩, h4, em⟩ := Option.bind_eq_some_iff.mp em
    obtain ⟨v', h5, em⟩ := Option.bind_eq_some_iff.mp em
    obtain ⟨ρ2, h6, em⟩ := Option.map_eq_some_iff.mp em
    cases em
    refine ⟨B, H0, ρ, as, ρ1, sr, h1, fun vs H1 s1 a1 f1 => ?_⟩
    exact call_core s1 a1.reverse (chk_some h2) h3 (by rw [List.length_reverse, mArgs_len h1, hl]) h4 h5 h6 (q.from f1)
end
theorem rev2 {us ws : List Value} {vs zs : List V} (h1 : Vals vs us) (h2 : Vals zs ws) : Vals (gRev vs zs) (gRev us ws) := by
  cases h1 with
  | nil => exact Vals.rev h2
  | cons _ _ => exact .nil
section
variable {X : Cx} {C : Program × World} {e : Expr} {es : List Expr} {ms : List (Mi Val)} {m mk mv : Mi Val} {T id : String} {name : Str} {f : Ob → List PyData → Option (Ob × PyData)}
theorem gv (i : Nat) {x : Str} {pos : Pos} (hN : X.N[i]? = some x := by rfl) (hv : Vis X.env.scope x := by first | exact Or.inl rfl | exact Or.inr (Or.inl rfl) | exact Or.inr (Or.inr rfl)) (hd : (x == ("__debug__" : Str)) = false := by decide)
    (hcd : (x == ("__classdict__" : Str)) = false := by decide) : PE X (.Name x pos) (tX C (mVar i)) := gx_var hN hv hd hcd
theorem gput (n : Nat) {i value : Expr} {x : Str} {p0 pos pos' : Pos} (hu : X.A.units + 65 < cLine) (hi : PE X i (tX C mk)) (hv : PE X value (tX C mv)) (hN : X.N[n]? = some x := by rfl) (hv0 : Vis X.env.scope x := by first | exact Or.inl rfl | exact Or.inr (Or.inl rfl) | exact Or.inr (Or.inr rfl)) (hs : swapsWith value (some (.Subscript (.Name x p0) i pos')) pos.line X.env = pure false := by rfl) (hC : (X.prog, X.w) = C := by rfl)
    (hd : (x == ("__debug__" : Str)) = false := by decide) (hcd : (x == ("__classdict__" : Str)) = false := by decide) : PS X (.Assign [.Subscript (.Name x p0) i pos'] value pos) (tS C (mPut n mk mv)) := gs_put hu hN hv0 hi hv hs hC hd hcd
theorem gmeth (n : Nat) {x : Str} {p0 apos cpos : Pos} (pa : PlainAttrs T) (slot : Slot T name id) (hty : typeOf (.builtin id) = pure (.type "method_descriptor")) (hm : MSpec X id f) (ha : PA X (e :: es) (tAs C (mArgs ms))) (hN : X.N[n]? = some x := by rfl) (hv0 : Vis X.env.scope x := by first | exact Or.inl rfl | exact Or.inr (Or.inl rfl) | exact Or.inr (Or.inr rfl)) (hC : (X.prog, X.w) = C := by rfl)
    (hbase : attributeBase (.Name x p0) name X.env (eval (.Name x p0) X.env) = eval (.Name x p0) X.env := by rfl)
    (hfew : ((backTo cpos (starEach (e :: es) X.env)).all (fun x => !x.1) && (backToKw cpos (keywordEach [] X.env)).all (fun x => x.1.isSome)
      && decide ((e :: es).length + ([] : List Keyword).length + (if ([] : List Keyword).isEmpty then 0 else 1) < 30)) = true := by rfl)
    (hline : (apos.endLine == cpos.line) = true := by rfl) (hs : starEach (e :: es) X.env = (false, eval e X.env) :: starEach es X.env := by rfl) (hplain : (backTo cpos (starEach es X.env)).any (·.1) = false := by rfl)
    (hd : (x == ("__debug__" : Str)) = false := by decide) (hcd : (x == ("__classdict__" : Str)) = false := by decide) :
    PE X (.Call (.Attribute (.Name x p0) name apos) (e :: es) [] cpos) (tX C (mMeth T f n ms)) := gx_meth pa slot hty hm hN hv0 ha hC hbase hfew hline hs hplain hd hcd
theorem gmeth0 (n : Nat) {x : Str} {p0 apos cpos : Pos} (pa : PlainAttrs T) (slot : Slot T name id) (hty : typeOf (.builtin id) = pure (.type "method_descriptor")) (hm : MSpec X id f) (hN : X.N[n]? = some x := by rfl) (hv0 : Vis X.env.scope x := by first | exact Or.inl rfl | exact Or.inr (Or.inl rfl) | exact Or.inr (Or.inr rfl)) (hC : (X.prog, X.w) = C := by rfl)
    (hbase : attributeBase (.Name x p0) name X.env (eval (.Name x p0) X.env) = eval (.Name x p0) X.env := by rfl) (hline : (apos.endLine == cpos.line) = true := by rfl)
    (hd : (x == ("__debug__" : Str)) = false := by decide) (hcd : (x == ("__classdict__" : Str)) = false := by decide) :
    PE X (.Call (.Attribute (.Name x p0) name apos) [] [] cpos) (tX C (mMeth T f n [])) := gx_meth0 pa slot hty hm hN hv0 hC hbase hline hd hcd
end
/-- turns that a while loop may take -/
def FUEL : Nat := 1000000
end G
/-! reasoning about mirrors -/
namespace G
open PySem PyProof.Rows
/-- the mirror tells something, of which Q holds -/
def E {α : Type} (m : Mi α) (ρ : Env) (Q : α → Env → Prop) : Prop := ∃ a ρ', m ρ = some (a, ρ') ∧ Q a ρ'
def WS (m : Ms) (ρ : Env) (Q : Out → Prop) : Prop := ∃ o, m ρ = some o ∧ Q o
section
variable {α : Type} {ρ ρ1 : Env}
theorem E.of {m : Mi α} {a : α} {Q : α → Env → Prop} (h : m ρ = some (a, ρ1)) (q : Q a ρ1) : E m ρ Q := ⟨a, ρ1, h, q⟩
theorem E.keep {m : Mi α} {a : α} {Q : α → Env → Prop} (h : m ρ = some (a, ρ)) (q : Q a ρ) : E m ρ Q := ⟨a, ρ, h, q⟩
theorem E.mono {m : Mi α} {Q R : α → Env → Prop} (h : E m ρ Q) (w : ∀ a ρ', Q a ρ' → R a ρ') : E m ρ R := by
  obtain ⟨a, ρ', h1, h2⟩ := h
  exact ⟨a, ρ', h1, w _ _ h2⟩
theorem WS.of {m : Ms} {o : Out} {Q : Out → Prop} (h : m ρ = some o) (q : Q o) : WS m ρ Q := ⟨o, h, q⟩
theorem WS.mono {m : Ms} {Q R : Out → Prop} (h : WS m ρ Q) (w : ∀ o, Q o → R o) : WS m ρ R := by
  obtain ⟨o, h1, h2⟩ := h
  exact ⟨o, h1, w _ h2⟩
theorem E_fz {m : Mi Val} {Q : AV → Env → Prop} (h : E m ρ fun v ρ' => ∃ a, v.av = some a ∧ Q a ρ') : E (fz m) ρ Q := by
  obtain ⟨v, ρ', h1, a, h2, h3⟩ := h
  exact ⟨a, ρ', by unfold fz; rw [h1]; show (v.av.map fun a => (a, ρ')) = _; rw [h2]; rfl, h3⟩
/-- data, or a list that becomes data -/
theorem E_fzd {m : Mi Val} {Q : AV → Env → Prop} (h : E m ρ fun v ρ' => ∃ d, v = .d d ∧ Q (.d d) ρ') : E (fz m) ρ Q := E_fz (h.mono fun v ρ' ⟨d, e, q⟩ => ⟨.d d, by rw [e]; rfl, q⟩)
theorem E_m2 {f : PyData → PyData → Option Res} {ma mb : Mi Val} {Q : Val → Env → Prop}
    (h : E (fz ma) ρ fun a ρ1 => E (fz mb) ρ1 fun b ρ2 => ∃ x y o, a.res ρ2 = some x ∧ b.res ρ2 = some y ∧ f x y = some o ∧ Q o.val ρ2) : E (m2 f ma mb) ρ Q := by
  obtain ⟨a, ρ1, h1, b, ρ2, h2, x, y, o, h3, h4, h5, q⟩ := h
  refine ⟨o.val, ρ2, ?_, q⟩
  unfold m2
  rw [h1]
  show ((fz mb ρ1).bind fun b => (a.res b.2).bind fun x => (b.1.res b.2).bind fun y => (f x y).map fun o => (o.val, b.2)) = _
  rw [h2]
  show ((a.res ρ2).bind fun x => (b.res ρ2).bind fun y => (f x y).map fun o => (o.val, ρ2)) = _
  rw [h3, h4]
  show ((f x y).map fun o => (o.val, ρ2)) = _
  rw [h5]
  rfl
theorem E_m1 {f : PyData → Option Res} {ma : Mi Val} {Q : Val → Env → Prop} (h : E (fz ma) ρ fun a ρ1 => ∃ x o, a.res ρ1 = some x ∧ f x = some o ∧ Q o.val ρ1) : E (m1 f ma) ρ Q := by
  obtain ⟨a, ρ1, h1, x, o, h3, h5, q⟩ := h
  refine ⟨o.val, ρ1, ?_, q⟩
  unfold m1
  rw [h1]
  show ((a.res ρ1).bind fun x => (f x).map fun o => (o.val, ρ1)) = _
  rw [h3]
  show ((f x).map fun o => (o.val, ρ1)) = _
  rw [h5]
  rfl
theorem E_nil {Q : List AV → Env → Prop} (q : Q [] ρ) : E (mArgs []) ρ Q := ⟨[], ρ, rfl, q⟩
theorem E_cons {m : Mi Val} {ms : List (Mi Val)} {Q : List AV → Env → Prop} (h : E (fz m) ρ fun a ρ1 => E (mArgs ms) ρ1 fun as ρ2 => Q (a :: as) ρ2) : E (mArgs (m :: ms)) ρ Q := by
  obtain ⟨a, ρ1, h1, as, ρ2, h2, q⟩ := h
  refine ⟨a :: as, ρ2, ?_, q⟩
  unfold mArgs
  rw [h1]
  show ((mArgs ms ρ1).bind fun r => some (a :: r.1, r.2)) = _
  rw [h2]
  rfl
theorem E_mN {f : List PyData → Option Res} {ms : List (Mi Val)} {Q : Val → Env → Prop} (h : E (mArgs ms) ρ fun as ρ1 => ∃ xs o, resAll ρ1 as = some xs ∧ f xs = some o ∧ Q o.val ρ1) : E (mN f ms) ρ Q := by
  obtain ⟨as, ρ1, h1, xs, o, h2, h3, q⟩ := h
  refine ⟨o.val, ρ1, ?_, q⟩
  unfold mN
  rw [h1]
  show ((resAll ρ1 as).bind fun xs => (f xs).map fun o => (o.val, ρ1)) = _
  rw [h2]
  show ((f xs).map fun o => (o.val, ρ1)) = _
  rw [h3]
  rfl
theorem E_tup {ms : List (Mi Val)} {Q : Val → Env → Prop} (h : E (mArgs ms) ρ fun as ρ1 => ∃ xs, datAll as = some xs ∧ Q (.d (.tuple xs)) ρ1) : E (mTup ms) ρ Q := by
  obtain ⟨as, ρ1, h1, xs, h2, q⟩ := h
  refine ⟨_, ρ1, ?_, q⟩
  unfold mTup
  rw [h1]
  show ((datAll as).map fun xs => (Val.d (.tuple xs), ρ1)) = _
  rw [h2]
  rfl
theorem E_lst {ms : List (Mi Val)} {Q : Val → Env → Prop} (h : E (mArgs ms) ρ fun as ρ1 => ∃ xs, datAll as = some xs ∧ Q (.fr (.lst xs)) ρ1) : E (mLst ms) ρ Q := by
  obtain ⟨as, ρ1, h1, xs, h2, q⟩ := h
  refine ⟨_, ρ1, ?_, q⟩
  unfold mLst
  rw [h1]
  show ((datAll as).map fun xs => (Val.fr (.lst xs), ρ1)) = _
  rw [h2]
  rfl
theorem E_tst {m : Mi Val} {Q : Bool → Env → Prop} (h : E m ρ fun v ρ1 => ∃ b, v = .d (.bool b) ∧ Q b ρ1) : E (mtst m) ρ Q := by
  obtain ⟨v, ρ1, h1, b, rfl, q⟩ := h
  exact ⟨b, ρ1, by unfold mtst; rw [h1]; rfl, q⟩
theorem E_and {a b : Mi Bool} {Q : Bool → Env → Prop} (h : E a ρ fun x ρ1 => if x = true then E b ρ1 Q else Q false ρ1) : E (mAnd a b) ρ Q := by
  obtain ⟨x, ρ1, h1, q⟩ := h
  unfold E mAnd
  rw [h1]
  cases x with
  | true =>
    rw [if_pos rfl] at q
    exact q
  | false =>
    rw [if_neg (by decide)] at q
    exact ⟨false, ρ1, rfl, q⟩
theorem E_or {a b : Mi Bool} {Q : Bool → Env → Prop} (h : E a ρ fun x ρ1 => if x = true then Q true ρ1 else E b ρ1 Q) : E (mOr a b) ρ Q := by
  obtain ⟨x, ρ1, h1, q⟩ := h
  unfold E mOr
  rw [h1]
  cases x with
  | true =>
    rw [if_pos rfl] at q
    exact ⟨true, ρ1, rfl, q⟩
  | false =>
    rw [if_neg (by decide)] at q
    exact q
theorem E_ifE {c : Mi Bool} {a b : Mi Val} {Q : Val → Env → Prop} (h : E c ρ fun x ρ1 => if x = true then E a ρ1 Q else E b ρ1 Q) : E (mIfE c a b) ρ Q := by
  obtain ⟨x, ρ1, h1, q⟩ := h
  unfold E mIfE
  rw [h1]
  cases x with
  | true =>
    rw [if_pos rfl] at q
    exact q
  | false =>
    rw [if_neg (by decide)] at q
    exact q
theorem E_call {mf : Mf} {ms : List (Mi Val)} {Q : Val → Env → Prop} (h : E (mArgs ms) ρ fun as ρ1 => (bors as).Nodup ∧ ∃ ρ0, bindA ρ1 0 as = some ρ0 ∧ ∃ r ρq v ρ2, mf ρ0 = some (r, ρq) ∧ r.val as = some v ∧ backA ρ1 as ρq = some ρ2 ∧ Q v ρ2) : E (mCall mf ms) ρ Q := by
  obtain ⟨as, ρ1, h1, h2, ρ0, h3, r, ρq, v, ρ2, h4, h5, h6, q⟩ := h
  refine ⟨v, ρ2, ?_, q⟩
  unfold mCall
  rw [h1]
  show ((chk (bors as).Nodup).bind fun _ => (bindA ρ1 0 as).bind fun ρ0 => (mf ρ0).bind fun q => (q.1.val as).bind fun v => (backA ρ1 as q.2).map fun ρ2 => (v, ρ2)) = _
  rw [show chk (bors as).Nodup = some () from if_pos h2]
  show ((bindA ρ1 0 as).bind fun ρ0 => (mf ρ0).bind fun q => (q.1.val as).bind fun v => (backA ρ1 as q.2).map fun ρ2 => (v, ρ2)) = _
  rw [h3]
  show ((mf ρ0).bind fun q => (q.1.val as).bind fun v => (backA ρ1 as q.2).map fun ρ2 => (v, ρ2)) = _
  rw [h4]
  show ((r.val as).bind fun v => (backA ρ1 as ρq).map fun ρ2 => (v, ρ2)) = _
  rw [h5]
  show ((backA ρ1 as ρq).map fun ρ2 => (v, ρ2)) = _
  rw [h6]
  rfl
/-! statements -/
theorem WS_seq {a b : Ms} {Q : Out → Prop} (h : WS a ρ fun o => match o with
    | .nx ρ' => WS b ρ' Q
    | o => Q o) : WS (mSeq a b) ρ Q := by
  obtain ⟨o, h1, h2⟩ := h
  unfold WS mSeq
  rw [h1]
  cases o with
  | nx ρ' => exact h2
  | rt d ρ' => exact ⟨_, rfl, h2⟩
  | ro d ρ' => exact ⟨_, rfl, h2⟩
  | rp d ρ' => exact ⟨_, rfl, h2⟩
  | bk ρ' => exact ⟨_, rfl, h2⟩
  | ct ρ' => exact ⟨_, rfl, h2⟩
theorem WS_set {i : Nat} {m : Mi Val} {Q : Out → Prop} (h : E (fz m) ρ fun a ρ1 => ∃ d, a = .d d ∧ Q (.nx (ρ1.set i (.dat d)))) : WS (mSet i m) ρ Q := by
  obtain ⟨a, ρ1, h1, d, rfl, q⟩ := h
  exact ⟨_, by unfold mSet; rw [h1]; rfl, q⟩
theorem WS_setO {i : Nat} {m : Mi Val} {Q : Out → Prop} (h : E m ρ fun v ρ1 => ∃ o, v = .fr o ∧ Q (.nx (ρ1.set i (.own o)))) : WS (mSetO i m) ρ Q := by
  obtain ⟨a, ρ1, h1, d, rfl, q⟩ := h
  exact ⟨_, by unfold mSetO; rw [h1]; rfl, q⟩
theorem WS_exp {m : Mi Val} {Q : Out → Prop} (h : E m ρ fun _ ρ1 => Q (.nx ρ1)) : WS (mExp m) ρ Q := by
  obtain ⟨a, ρ1, h1, q⟩ := h
  exact ⟨_, by unfold mExp; rw [h1]; rfl, q⟩
theorem WS_ret {m : Mi Val} {Q : Out → Prop} (h : E (fz m) ρ fun a ρ1 => ∃ d, a = .d d ∧ Q (.rt d ρ1)) : WS (mRet m) ρ Q := by
  obtain ⟨a, ρ1, h1, d, rfl, q⟩ := h
  exact ⟨_, by unfold mRet; rw [h1]; rfl, q⟩
theorem WS_if {c : Mi Bool} {a b : Ms} {Q : Out → Prop} (h : E c ρ fun x ρ1 => if x = true then WS a ρ1 Q else WS b ρ1 Q) : WS (mIf c a b) ρ Q := by
  obtain ⟨x, ρ1, h1, q⟩ := h
  unfold WS mIf
  rw [h1]
  cases x with
  | true =>
    rw [if_pos rfl] at q
    exact q
  | false =>
    rw [if_neg (by decide)] at q
    exact q
theorem WS_asg {f : Mt} {m : Mi Val} {Q : Out → Prop} (h : E (fz m) ρ fun a ρ1 => ∃ d ρ2, a.res ρ1 = some d ∧ f d ρ1 = some ρ2 ∧ Q (.nx ρ2)) : WS (mAsg f m) ρ Q := by
  obtain ⟨a, ρ1, h1, d, ρ2, h2, h3, q⟩ := h
  refine ⟨_, ?_, q⟩
  unfold mAsg
  rw [h1]
  show ((a.res ρ1).bind fun d => (f d ρ1).map Out.nx) = _
  rw [h2]
  show (f d ρ1).map Out.nx = _
  rw [h3]
  rfl
theorem WS_par {i j : Nat} {ms : List (Mi Val)} {Q : Out → Prop} (h : E (mArgs ms) ρ fun as ρ1 => ∃ x y, datAll as = some [x, y] ∧ Q (.nx ((ρ1.set i (.dat x)).set j (.dat y)))) : WS (mPar i j ms) ρ Q := by
  obtain ⟨as, ρ1, h1, x, y, h2, q⟩ := h
  refine ⟨_, ?_, q⟩
  unfold mPar
  rw [h1]
  show ((datAll as).bind fun xs => match xs with
  | [x, y] => some (Out.nx ((ρ1.set i (.dat x)).set j (.dat y)))
  | _ => none) = _
  rw [h2]
  rfl
theorem WS_put {i : Nat} {mk mv : Mi Val} {Q : Out → Prop} (h : E (fz mv) ρ fun a ρ1 => (slotOb ρ1 i).isSome = true ∧ E (fz mk) ρ1 fun b ρ2 => ∃ d k o o', a = .d d ∧ b = .d k ∧ slotOb ρ2 i = some o ∧ putOb o k d = some o' ∧ Q (.nx (setOb ρ2 i o'))) : WS (mPut i mk mv) ρ Q := by
  obtain ⟨a, ρ1, h1, h2, b, ρ2, h3, d, k, o, o', rfl, rfl, h4, h5, q⟩ := h
  refine ⟨_, ?_, q⟩
  obtain ⟨o1, h2⟩ := Option.isSome_iff_exists.mp h2
  unfold mPut
  rw [h1]
  show ((slotOb ρ1 i).bind fun _ => (fz mk ρ1).bind fun b => _) = _
  rw [h2]
  show ((fz mk ρ1).bind fun b => _) = _
  rw [h3]
  show ((slotOb ρ2 i).bind fun o => (putOb o k d).map fun o' => Out.nx (setOb ρ2 i o')) = _
  rw [h4]
  show ((putOb o k d).map fun o' => Out.nx (setOb ρ2 i o')) = _
  rw [h5]
  rfl
def contF (f : Mt) (body : Ms) (xs : List PyData) : Out → Option Out
  | .nx ρ2 => goFor f body xs ρ2
  | .ct ρ2 => goFor f body xs ρ2
  | .bk ρ2 => some (.nx ρ2)
  | o => some o
theorem goFor_cons {f : Mt} {body : Ms} {x : PyData} {xs : List PyData} {ρ ρ' : Env} {o : Out} (h1 : f x ρ = some ρ') (h2 : body ρ' = some o) : goFor f body (x :: xs) ρ = contF f body xs o := by
  rw [goFor, h1]
  show (body ρ').bind _ = _
  rw [h2]
  cases o <;> rfl
/-- a for loop by what stands at turn i -/
theorem goFor_inv {f : Mt} {body : Ms} {Q : Out → Prop} {xs : List PyData} (Inv : Nat → Env → Prop)
    (hs : ∀ i x ρ, xs[i]? = some x → Inv i ρ → ∃ ρ', f x ρ = some ρ' ∧ WS body ρ' fun o => match o with
      | .nx ρ2 => Inv (i + 1) ρ2
      | .ct ρ2 => Inv (i + 1) ρ2
      | .bk ρ2 => Q (.nx ρ2)
      | o => Q o) (hd : ∀ ρ, Inv xs.length ρ → Q (.nx ρ)) : ∀ (n i : Nat) (ρ : Env), n = xs.length - i → i ≤ xs.length → Inv i ρ → WS (goFor f body (xs.drop i)) ρ Q := by
  intro n
  induction n with
  | zero =>
    intro i ρ hn hi h
    have : i = xs.length := by omega
    subst this
    rw [List.drop_length]
    exact ⟨_, rfl, hd ρ h⟩
  | succ n ih =>
    intro i ρ hn hi h
    have hlt : i < xs.length := by omega
    obtain ⟨ρ', h1, o, h2, h3⟩ := hs i xs[i] ρ (List.getElem?_eq_getElem hlt) h
    rw [List.drop_eq_getElem_cons hlt]
    have next : ∀ ρ2, Inv (i + 1) ρ2 → WS (goFor f body (xs.drop (i + 1))) ρ2 Q := fun ρ2 z => ih (i + 1) ρ2 (by omega) hlt z
    unfold WS
    rw [goFor_cons h1 h2]
    cases o with
    | nx ρ2 =>
      exact next ρ2 h3
    | ct ρ2 =>
      exact next ρ2 h3
    | bk ρ2 => exact ⟨_, rfl, h3⟩
    | rt d ρ2 => exact ⟨_, rfl, h3⟩
    | ro d ρ2 => exact ⟨_, rfl, h3⟩
    | rp d ρ2 => exact ⟨_, rfl, h3⟩
theorem WS_for {src : Mi (List PyData)} {f : Mt} {body : Ms} {Q : Out → Prop} (h : E src ρ fun xs ρ1 => ∃ Inv : Nat → Env → Prop, Inv 0 ρ1 ∧
    (∀ i x ρ, xs[i]? = some x → Inv i ρ → ∃ ρ', f x ρ = some ρ' ∧ WS body ρ' fun o => match o with
      | .nx ρ2 => Inv (i + 1) ρ2
      | .ct ρ2 => Inv (i + 1) ρ2
      | .bk ρ2 => Q (.nx ρ2)
      | o => Q o) ∧ ∀ ρ, Inv xs.length ρ → Q (.nx ρ)) : WS (mFor src f body) ρ Q := by
  obtain ⟨xs, ρ1, h1, Inv, h2, h3, h4⟩ := h
  obtain ⟨o, a, b⟩ := goFor_inv Inv h3 h4 xs.length 0 ρ1 (by omega) (Nat.zero_le _) h2
  refine ⟨o, ?_, b⟩
  unfold mFor
  rw [h1]
  exact a
/-- a while loop: Inv m says that at most m turns are left -/
theorem WS_while {c : Mi Bool} {body : Ms} {Q : Out → Prop} (Inv : Nat → Env → Prop)
    (hs : ∀ m ρ, Inv m ρ → E c ρ fun b ρ1 => if b = true then ∃ m', m = m' + 1 ∧ WS body ρ1 (fun o => match o with
      | .nx ρ2 => Inv m' ρ2
      | .ct ρ2 => Inv m' ρ2
      | .bk ρ2 => Q (.nx ρ2)
      | o => Q o) else Q (.nx ρ1)) : ∀ (n m : Nat) (ρ : Env), m < n → Inv m ρ → WS (mWhile c body n) ρ Q := by
  intro n
  induction n with
  | zero => intro m ρ h; omega
  | succ n ih =>
    intro m ρ hm h
    obtain ⟨b, ρ1, h1, h2⟩ := hs m ρ h
    unfold WS
    rw [mWhile, h1]
    cases b with
    | false =>
      rw [if_neg (by decide)] at h2
      exact ⟨_, rfl, h2⟩
    | true =>
      rw [if_pos rfl] at h2
      obtain ⟨m', rfl, o, h3, h4⟩ := h2
      show ∃ o', ((body ρ1).bind fun o => match o with
        | .nx ρ2 => mWhile c body n ρ2
        | .ct ρ2 => mWhile c body n ρ2
        | .bk ρ2 => some (.nx ρ2)
        | o => some o) = some o' ∧ Q o'
      rw [h3]
      cases o with
      | nx ρ2 => exact ih m' ρ2 (by omega) h4
      | ct ρ2 => exact ih m' ρ2 (by omega) h4
      | bk ρ2 => exact ⟨_, rfl, h4⟩
      | rt d ρ2 => exact ⟨_, rfl, h4⟩
      | ro d ρ2 => exact ⟨_, rfl, h4⟩
      | rp d ρ2 => exact ⟨_, rfl, h4⟩
end
end G
/-! reasoning about mirrors: comprehensions -/
namespace G
open PySem PyProof.Rows
section
variable {ρ ρ1 : Env}
theorem wipeE_get {ρ : Env} {vs : List Nat} {i : Nat} : (wipeE ρ vs)[i]? = if i ∈ vs ∧ i < ρ.length then some .non else ρ[i]? := by
  by_cases h : i ∈ vs
  · by_cases h2 : i < ρ.length
    · rw [if_pos ⟨h, h2⟩, wipeE_in h h2]
    · rw [if_neg fun z => h2 z.2, List.getElem?_eq_none (by rw [wipeE_len]; omega), List.getElem?_eq_none (by omega)]
  · rw [if_neg fun z => h z.1, wipeE_out h]
/-- the block's slots come back as they were -/
theorem restE_same {ρ1 ρf : Env} : ∀ {vs : List Nat}, (∀ v ∈ vs, ρ1[v]? = some .non ∨ ∃ d, ρ1[v]? = some (.dat d)) → ∃ r, restE ρ1 ρf vs = some r ∧ r.length = ρf.length ∧ (∀ i, i ∉ vs → r[i]? = ρf[i]?) ∧ ∀ i, i ∈ vs → i < ρf.length → r[i]? = ρ1[i]?
  | [], _ => ⟨ρf, rfl, rfl, fun _ _ => rfl, fun i h => (nomatch h)⟩
  | v :: vs, h => by
    obtain ⟨r, h1, h2, h3, h4⟩ := restE_same (ρ1 := ρ1) (ρf := ρf) (vs := vs) fun u hu => h u (List.mem_cons_of_mem _ hu)
    have go : ∀ t : Sl, ρ1[v]? = some t → (restE ρ1 ρf (v :: vs) = some (r.set v t)) → ∃ r, restE ρ1 ρf (v :: vs) = some r ∧ r.length = ρf.length ∧ (∀ i, i ∉ v :: vs → r[i]? = ρf[i]?) ∧ ∀ i, i ∈ v :: vs → i < ρf.length → r[i]? = ρ1[i]? := fun t ht e => by
      refine ⟨_, e, by rw [List.length_set, h2], fun i hi => ?_, fun i hi hl => ?_⟩
      · rw [List.mem_cons, not_or] at hi
        rw [List.getElem?_set_ne (fun z => hi.1 z.symm)]
        exact h3 i hi.2
      · by_cases hv : v = i
        · subst hv
          rw [List.getElem?_set_self (by rw [h2]; exact hl), ht]
        · rw [List.getElem?_set_ne hv]
          rcases List.mem_cons.mp hi with z | z
          · exact absurd z.symm hv
          · exact h4 i z hl
    rcases h v (List.mem_cons_self ..) with ht | ⟨d, ht⟩
    · exact go _ ht (by rw [restE, h1]; show (match ρ1[v]? with
        | some (.dat d) => some (r.set v (.dat d))
        | some .non => some (r.set v .non)
        | _ => none) = _; rw [ht])
    · exact go _ ht (by rw [restE, h1]; show (match ρ1[v]? with
        | some (.dat d) => some (r.set v (.dat d))
        | some .non => some (r.set v .non)
        | _ => none) = _; rw [ht])
theorem restE_back {ρ1 ρf : Env} {vs : List Nat} (h : ∀ v ∈ vs, ρ1[v]? = some .non ∨ ∃ d, ρ1[v]? = some (.dat d)) (e : wipeE ρf vs = wipeE ρ1 vs) : restE ρ1 ρf vs = some ρ1 := by
  obtain ⟨r, h1, h2, h3, h4⟩ := restE_same (ρf := ρf) h
  have hl : ρf.length = ρ1.length := by
    have := congrArg List.length e
    rwa [wipeE_len, wipeE_len] at this
  rw [h1]
  refine congrArg some (List.ext_getElem? fun i => ?_)
  by_cases hi : i ∈ vs
  · by_cases hlt : i < ρf.length
    · exact h4 i hi hlt
    · rw [List.getElem?_eq_none (by omega), List.getElem?_eq_none (by omega)]
  · rw [h3 i hi]
    have := congrArg (fun (l : Env) => l[i]?) e
    rw [wipeE_out hi, wipeE_out hi] at this
    exact this
/-- one turn of a comprehension's block: what it gives for x, the other slots as they were -/
def LcTurn (f : Mt) (tt : Mi Bool) (el : Mi Val) (vs : List Nat) (ρ1 : Env) (x : PyData) (r : Option PyData) : Prop :=
  ∃ ρ2, f x (wipeE ρ1 vs) = some ρ2 ∧ E tt ρ2 fun b ρ3 => if b = true then E (fz el) ρ3 fun a ρ4 => ∃ d, a = .d d ∧ r = some d ∧ wipeE ρ4 vs = wipeE ρ1 vs else r = none ∧ wipeE ρ3 vs = wipeE ρ1 vs
theorem goLc_eq {f : Mt} {tt : Mi Bool} {el : Mi Val} {vs : List Nat} {ρ1 : Env} {α : Type} {enc : α → PyData} {g : α → Option PyData} : ∀ {xs : List α} (ρ : Env), wipeE ρ vs = wipeE ρ1 vs → (∀ x ∈ xs, LcTurn f tt el vs ρ1 (enc x) (g x)) → ∃ ρf, goLc f tt el vs (xs.map enc) ρ = some (xs.filterMap g, ρf) ∧ wipeE ρf vs = wipeE ρ1 vs
  | [], ρ, e, _ => ⟨ρ, rfl, e⟩
  | x :: xs, ρ, e, h => by
    obtain ⟨ρ2, h1, b, ρ3, h2, h3⟩ := h x (List.mem_cons_self ..)
    rw [List.map_cons, goLc, e, h1]
    show ∃ ρf, ((tt ρ2).bind fun b => if b.1 = true then (fz el b.2).bind fun v => match v.1 with
      | .d d => (goLc f tt el vs (xs.map enc) v.2).map fun r => (d :: r.1, r.2)
      | .b _ => none
      else goLc f tt el vs (xs.map enc) b.2) = some ((x :: xs).filterMap g, ρf) ∧ wipeE ρf vs = wipeE ρ1 vs
    rw [h2]
    have hx := fun y hy => h y (List.mem_cons_of_mem _ hy)
    cases b with
    | true =>
      rw [if_pos rfl] at h3
      obtain ⟨a, ρ4, h4, d, rfl, h5, h6⟩ := h3
      obtain ⟨ρf, h7, h8⟩ := goLc_eq (xs := xs) ρ4 h6 hx
      refine ⟨ρf, ?_, h8⟩
      show (((fz el ρ3).bind fun v => match v.1 with
        | .d d => (goLc f tt el vs (xs.map enc) v.2).map fun r => (d :: r.1, r.2)
        | .b _ => none)) = some ((x :: xs).filterMap g, ρf)
      rw [h4]
      show ((goLc f tt el vs (xs.map enc) ρ4).map fun r => (d :: r.1, r.2)) = _
      rw [h7, List.filterMap_cons, h5]
      rfl
    | false =>
      rw [if_neg (by decide)] at h3
      obtain ⟨ρf, h7, h8⟩ := goLc_eq (xs := xs) ρ3 h3.2 hx
      refine ⟨ρf, ?_, h8⟩
      show goLc f tt el vs (xs.map enc) ρ3 = _
      rw [h7, List.filterMap_cons, h3.1]
theorem E_lc {src : Mi (List PyData)} {f : Mt} {tt : Mi Bool} {el : Mi Val} {vs : List Nat} {Q : Val → Env → Prop} {α : Type} (enc : α → PyData) (g : α → Option PyData) (h : E src ρ fun xs' ρ1 => ∃ xs : List α, xs' = xs.map enc ∧ (∀ x ∈ xs, LcTurn f tt el vs ρ1 (enc x) (g x)) ∧ xs.length < LIM ∧ (∀ v ∈ vs, ρ1[v]? = some .non ∨ ∃ d, ρ1[v]? = some (.dat d)) ∧ Q (.fr (.lst (xs.filterMap g))) ρ1) : E (mLc src f tt el vs) ρ Q := by
  obtain ⟨xs', ρ1, h1, xs, rfl, h2, h3, h4, q⟩ := h
  obtain ⟨ρf, h5, h6⟩ := goLc_eq ρ1 rfl h2
  refine ⟨_, ρ1, ?_, q⟩
  unfold mLc
  rw [h1]
  show ((goLc f tt el vs (xs.map enc) ρ1).bind fun r => lcEnd ρ1 vs r) = _
  rw [h5]
  show lcEnd ρ1 vs (xs.filterMap g, ρf) = _
  unfold lcEnd
  rw [show chk ((xs.filterMap g).length < LIM ∧ ∀ v ∈ vs, v < ρ1.length) = some () from if_pos ⟨Nat.lt_of_le_of_lt (List.length_filterMap_le _ _) h3, fun v hv => ?_⟩]
  · show ((restE ρ1 ρf vs).map fun ρ2 => (Val.fr (.lst (xs.filterMap g)), ρ2)) = _
    rw [restE_back h4 h6]
    rfl
  · rcases h4 v hv with z | ⟨d, z⟩
    · exact (List.getElem?_eq_some_iff.mp z).1
    · exact (List.getElem?_eq_some_iff.mp z).1
/-- a list that is walked -/
theorem E_src {m : Mi Val} {Q : List PyData → Env → Prop} (h : E (fz m) ρ fun a ρ1 => ∃ xs, (a = .d (.list xs) ∨ a = .d (.tuple xs)) ∧ Q xs ρ1) : E (mSrc m) ρ Q := by
  obtain ⟨a, ρ1, h1, xs, h2, q⟩ := h
  refine ⟨xs, ρ1, ?_, q⟩
  unfold mSrc
  rw [h1]
  rcases h2 with rfl | rfl <;> rfl
end
end G
/-! data of None, whole numbers, texts and tuples of such: what the operations say of it -/
namespace G
open PySem hiding Env
open PyProof.Rows L2
mutual
def nice : PyData → Bool
  | .none => true
  | .int _ => true
  | .str x => PyData.strOk x
  | .tuple xs => niceAll xs
  | _ => false
def niceAll : List PyData → Bool
  | [] => true
  | x :: xs => nice x && niceAll xs
end
theorem niceAll_iff : ∀ {xs : List PyData}, niceAll xs = true ↔ ∀ x ∈ xs, nice x = true
  | [] => by simp [niceAll]
  | x :: xs => by
    rw [niceAll, Bool.and_eq_true, niceAll_iff (xs := xs)]
    simp
mutual
theorem nice_noDict : ∀ {d : PyData}, nice d = true → noDict d = true
  | .none, _ => rfl
  | .int _, _ => rfl
  | .str _, _ => rfl
  | .tuple xs, h => by
    rw [noDict]
    exact niceAll_noDict (by simpa [nice] using h)
  | .bool _, h => by simp [nice] at h
  | .list _, h => by simp [nice] at h
  | .dict _, h => by simp [nice] at h
theorem niceAll_noDict : ∀ {xs : List PyData}, niceAll xs = true → noDictAll xs = true
  | [], _ => rfl
  | x :: xs, h => by
    rw [niceAll, Bool.and_eq_true] at h
    rw [noDictAll, nice_noDict h.1, niceAll_noDict h.2]
    rfl
end
mutual
theorem nice_canLay : ∀ {d : PyData}, nice d = true → d.canLay0 = true
  | .none, _ => by rw [PyData.canLay0]
  | .int _, _ => by rw [PyData.canLay0]
  | .str _, h => by
    rw [PyData.canLay0]
    simpa [nice] using h
  | .tuple xs, h => by
    rw [PyData.canLay0]
    exact niceAll_canLay (by simpa [nice] using h)
  | .bool _, h => by simp [nice] at h
  | .list _, h => by simp [nice] at h
  | .dict _, h => by simp [nice] at h
theorem niceAll_canLay : ∀ {xs : List PyData}, niceAll xs = true → PyData.canLayAll0 xs = true
  | [], _ => by rw [PyData.canLayAll0]
  | x :: xs, h => by
    rw [niceAll, Bool.and_eq_true] at h
    rw [PyData.canLayAll0, nice_canLay h.1, niceAll_canLay h.2]
    rfl
end
theorem beq_dec {α : Type} [DecidableEq α] (a b : α) : (a == b) = decide (a = b) := by
  by_cases h : a = b
  · simp [h]
  · simp [h]
mutual
theorem nice_eqv : ∀ {a b : PyData}, nice a = true → nice b = true → (PyData.eqv a b = true ↔ a = b)
  | .none, .none, _, _ => by simp [PyData.eqv]
  | .none, .int _, _, _ => by simp [PyData.eqv]
  | .none, .str _, _, _ => by simp [PyData.eqv]
  | .none, .tuple _, _, _ => by simp [PyData.eqv]
  | .int _, .none, _, _ => by simp [PyData.eqv]
  | .int i, .int j, _, _ => by simp [PyData.eqv]
  | .int _, .str _, _, _ => by simp [PyData.eqv]
  | .int _, .tuple _, _, _ => by simp [PyData.eqv]
  | .str _, .none, _, _ => by simp [PyData.eqv]
  | .str _, .int _, _, _ => by simp [PyData.eqv]
  | .str x, .str y, _, _ => by simp [PyData.eqv]
  | .str _, .tuple _, _, _ => by simp [PyData.eqv]
  | .tuple _, .none, _, _ => by simp [PyData.eqv]
  | .tuple _, .int _, _, _ => by simp [PyData.eqv]
  | .tuple _, .str _, _, _ => by simp [PyData.eqv]
  | .tuple xs, .tuple ys, h, k => by
    rw [PyData.eqv, PyData.tuple.injEq]
    exact niceAll_eqv (by simpa [nice] using h) (by simpa [nice] using k)
  | .bool _, _, h, _ => by simp [nice] at h
  | .list _, _, h, _ => by simp [nice] at h
  | .dict _, _, h, _ => by simp [nice] at h
  | _, .bool _, _, h => by simp [nice] at h
  | _, .list _, _, h => by simp [nice] at h
  | _, .dict _, _, h => by simp [nice] at h
theorem niceAll_eqv : ∀ {a b : List PyData}, niceAll a = true → niceAll b = true → (PyData.eqvAll a b = true ↔ a = b)
  | [], [], _, _ => by simp [PyData.eqvAll]
  | [], _ :: _, _, _ => by simp [PyData.eqvAll]
  | _ :: _, [], _, _ => by simp [PyData.eqvAll]
  | x :: xs, y :: ys, h, k => by
    rw [niceAll, Bool.and_eq_true] at h k
    rw [PyData.eqvAll, Bool.and_eq_true, nice_eqv h.1 k.1, niceAll_eqv h.2 k.2, List.cons.injEq]
end
/-- nice, and not deep -/
def fine (d : PyData) : Bool := nice d && decide (d.depth ≤ 8)
theorem fine_iff {d : PyData} : fine d = true ↔ nice d = true ∧ d.depth ≤ 8 := by
  unfold fine
  rw [Bool.and_eq_true, decide_eq_true_iff]
theorem fine_shaped {d : PyData} (h : fine d = true) : SeqAt.shaped d = true := by
  obtain ⟨a, b⟩ := fine_iff.mp h
  unfold SeqAt.shaped
  rw [nice_canLay a, Bool.true_and]
  exact decide_eq_true (by omega)
theorem depthAll_le {n : Nat} : ∀ {xs : List PyData}, (∀ x ∈ xs, x.depth ≤ n) → PyData.depthAll xs ≤ n
  | [], _ => Nat.zero_le _
  | x :: xs, h => by
    rw [PyData.depthAll]
    exact Nat.max_le.mpr ⟨h x (List.mem_cons_self ..), depthAll_le fun y hy => h y (List.mem_cons_of_mem _ hy)⟩
theorem fines_nice {xs : List PyData} (h : ∀ x ∈ xs, fine x = true) : niceAll xs = true := niceAll_iff.mpr fun x hx => (fine_iff.mp (h x hx)).1
theorem fines_shaped {xs : List PyData} (h : ∀ x ∈ xs, fine x = true) : SeqAt.shaped (.list xs) = true := by
  unfold SeqAt.shaped
  rw [PyData.canLay0, niceAll_canLay (fines_nice h), Bool.true_and, PyData.depth]
  have := depthAll_le (n := 8) fun x hx => (fine_iff.mp (h x hx)).2
  exact decide_eq_true (by omega)
theorem flat_inj {a b : PyData} (ha : flatD a = true) (hb : flatD b = true) : toV a = toV b ↔ a = b := by
  cases a <;> cases b <;> simp_all [flatD, toV]
theorem flat_eqV {a b : PyData} (ha : flatD a = true) (hb : flatD b = true) (na : nice a = true) (nb : nice b = true) : eqV (toV a) (toV b) = true ↔ a = b := by
  cases a <;> cases b <;> simp_all [flatD, toV, nice, eqV]
theorem dec_eq {p q : Prop} [Decidable p] [Decidable q] (h : p ↔ q) : decide p = decide q := by
  by_cases hp : p
  · rw [decide_eq_true hp, decide_eq_true (h.mp hp)]
  · rw [decide_eq_false hp, decide_eq_false fun z => hp (h.mpr z)]
theorem dec_b {p : Prop} [Decidable p] {b : Bool} (h : b = true ↔ p) : decide p = b := by
  cases b with
  | true => exact decide_eq_true (h.mp rfl)
  | false => exact decide_eq_false fun z => by cases h.mpr z
theorem eqD_fine {neg : Bool} {a b : PyData} {c : Bool} (hc : c = true ↔ a = b) (ha : fine a = true) (hb : fine b = true) : eqD neg a b = some (.d (.bool (if neg then !c else c))) := by
  have na := (fine_iff.mp ha).1
  have nb := (fine_iff.mp hb).1
  unfold eqD
  split
  · next h =>
    rw [Bool.and_eq_true, Bool.and_eq_true] at h
    rw [dec_b (hc.trans (flat_inj h.1.1 h.1.2).symm)]
  · rw [if_pos (by rw [nice_noDict na, nice_noDict nb, fine_shaped ha, fine_shaped hb]; rfl)]
    have : PyData.eqv a b = c := by
      rw [Bool.eq_iff_iff, nice_eqv na nb, hc]
    rw [this]
theorem inS_fine {neg : Bool} {a : PyData} {xs : List PyData} {c : Bool} (hc : c = true ↔ a ∈ xs) (ha : fine a = true) (hx : ∀ x ∈ xs, fine x = true) : inS neg a (.list xs) = some (.d (.bool (if neg then !c else c))) := by
  have na := (fine_iff.mp ha).1
  have key : ∀ p : PyData → Bool, (∀ x ∈ xs, (p x = true ↔ x = a)) → xs.any p = c := fun p hp => by
    rw [Bool.eq_iff_iff, hc, List.any_eq_true]
    constructor
    · rintro ⟨x, h1, h2⟩
      rw [← (hp x h1).mp h2]
      exact h1
    · exact fun h => ⟨a, h, (hp a h).mpr rfl⟩
  unfold inS
  dsimp only
  split
  · next h =>
    rw [Bool.and_eq_true, List.all_eq_true] at h
    rw [key _ fun x hxm => flat_eqV (h.2 x hxm) h.1 (fine_iff.mp (hx x hxm)).1 na]
  · rw [if_pos (by rw [nice_noDict na, niceAll_noDict (fines_nice hx), fine_shaped ha, fines_shaped hx]; rfl)]
    rw [key _ fun x hxm => nice_eqv (fine_iff.mp (hx x hxm)).1 na]
end G
/-! a def's mirror; sorted, min, index over fine data; lists of cells -/
namespace G
open PySem hiding Env
open PySem.W PyProof.Rows L2 HD
theorem fn_of {N : Nat} {mb : Ms} {ρ0 : Env} {Q : FR → Env → Prop} (h : WS mb (ρ0 ++ List.replicate (N - ρ0.length) .non) fun o => match o with
    | .nx ρ' => ∃ r, parsBack ρ0 ρ' = some r ∧ Q (.dt .none) r
    | .rt d ρ' => ∃ r, parsBack ρ0 ρ' = some r ∧ Q (.dt d) r
    | .ro ob ρ' => ∃ r, parsBack ρ0 ρ' = some r ∧ Q (.ob ob) r
    | .rp k ρ' => ∃ r, parsBack ρ0 ρ' = some r ∧ Q (.pa k) r
    | _ => False) : ∃ f r, fn N mb ρ0 = some (f, r) ∧ Q f r := by
  obtain ⟨o, h1, h2⟩ := h
  unfold fn
  rw [h1]
  cases o with
  | nx ρ' =>
    obtain ⟨r, h3, q⟩ := h2
    exact ⟨_, r, by show ((parsBack ρ0 ρ').map fun r => (FR.dt .none, r)) = _; rw [h3]; rfl, q⟩
  | rt d ρ' =>
    obtain ⟨r, h3, q⟩ := h2
    exact ⟨_, r, by show ((parsBack ρ0 ρ').map fun r => (FR.dt d, r)) = _; rw [h3]; rfl, q⟩
  | ro ob ρ' =>
    obtain ⟨r, h3, q⟩ := h2
    exact ⟨_, r, by show ((parsBack ρ0 ρ').map fun r => (FR.ob ob, r)) = _; rw [h3]; rfl, q⟩
  | rp k ρ' =>
    obtain ⟨r, h3, q⟩ := h2
    exact ⟨_, r, by show ((parsBack ρ0 ρ').map fun r => (FR.pa k, r)) = _; rw [h3]; rfl, q⟩
  | bk ρ' => exact h2.elim
  | ct ρ' => exact h2.elim
theorem WS_retO {i : Nat} {ρ : Env} {Q : Out → Prop} (h : (∃ o, ρ[i]? = some (.own o) ∧ Q (.ro o (ρ.set i .non))) ∨ ∃ k o, ρ[i]? = some (.par k o) ∧ Q (.rp k ρ)) : WS (mRetO (mVar i)) ρ Q := by
  rcases h with ⟨o, h1, q⟩ | ⟨k, o, h1, q⟩
  · refine ⟨_, ?_, q⟩
    unfold mRetO mVar
    rw [h1]
    show (match ρ[i]? with
      | some (.own o) => some (Out.ro o (ρ.set i .non))
      | some (.par k _) => some (.rp k ρ)
      | _ => none) = _
    rw [h1]
  · refine ⟨_, ?_, q⟩
    unfold mRetO mVar
    rw [h1]
    show (match ρ[i]? with
      | some (.own o) => some (Out.ro o (ρ.set i .non))
      | some (.par k _) => some (.rp k ρ)
      | _ => none) = _
    rw [h1]
theorem WS_frz {i : Nat} {s : Ms} {ρ : Env} {Q : Out → Prop} (h : ∃ o d, ρ[i]? = some (.own o) ∧ o.data = some d ∧ WS s (ρ.set i (.dat d)) Q) : WS (mFrz i s) ρ Q := by
  obtain ⟨o, d, h1, h2, o2, h3, q⟩ := h
  refine ⟨o2, ?_, q⟩
  unfold mFrz frzS
  rw [h1]
  show ((o.data.map fun d => ρ.set i (.dat d)).bind s) = _
  rw [h2]
  exact h3
/-- a method of a slot's object -/
theorem E_meth {T : String} {f : Ob → List PyData → Option (Ob × PyData)} {i : Nat} {ms : List (Mi Val)} {ρ : Env} {Q : Val → Env → Prop} (h : ∃ o0, slotOb ρ i = some o0 ∧ o0.ty = T ∧ E (mArgs ms) ρ fun as ρ1 => ∃ ds o o' d, datAll as = some ds ∧ slotOb ρ1 i = some o ∧ f o ds = some (o', d) ∧ Q (.d d) (setOb ρ1 i o')) : E (mMeth T f i ms) ρ Q := by
  obtain ⟨o0, h1, h2, as, ρ1, h3, ds, o, o', d, h4, h5, h6, q⟩ := h
  refine ⟨_, _, ?_, q⟩
  unfold mMeth
  rw [h1]
  show ((chk (o0.ty = T)).bind fun _ => (mArgs ms ρ).bind fun r => (datAll r.1).bind fun ds => (slotOb r.2 i).bind fun o => (f o ds).map fun q => (Val.d q.2, setOb r.2 i q.1)) = _
  rw [show chk (o0.ty = T) = some () from if_pos h2]
  show ((mArgs ms ρ).bind fun r => (datAll r.1).bind fun ds => (slotOb r.2 i).bind fun o => (f o ds).map fun q => (Val.d q.2, setOb r.2 i q.1)) = _
  rw [h3]
  show ((datAll as).bind fun ds => (slotOb ρ1 i).bind fun o => (f o ds).map fun q => (Val.d q.2, setOb ρ1 i q.1)) = _
  rw [h4]
  show ((slotOb ρ1 i).bind fun o => (f o ds).map fun q => (Val.d q.2, setOb ρ1 i q.1)) = _
  rw [h5]
  show ((f o ds).map fun q => (Val.d q.2, setOb ρ1 i q.1)) = _
  rw [h6]
  rfl
theorem E_append {i : Nat} {m : Mi Val} {ρ : Env} {Q : Val → Env → Prop} {l0 : List PyData} (h0 : slotOb ρ i = some (.lst l0)) (h : E (fz m) ρ fun a ρ1 => ∃ d l, a = .d d ∧ slotOb ρ1 i = some (.lst l) ∧ l.length < LIM ∧ Q (.d .none) (setOb ρ1 i (.lst (l ++ [d])))) : E (mMeth "list" obAppend i [m]) ρ Q := by
  obtain ⟨a, ρ1, h1, d, l, rfl, h2, h3, q⟩ := h
  refine E_meth ⟨_, h0, rfl, E_cons (.of h1 (E_nil ⟨[d], .lst l, .lst (l ++ [d]), .none, rfl, h2, if_pos h3, q⟩))⟩
theorem ixD_list {xs : List PyData} {n : Nat} {d : PyData} (h : xs[n]? = some d) : ixD (.list xs) (.int (n : Int)) = some (.d d) := by
  show ((atI xs (n : Int)).map Res.d) = _
  rw [atI_nat h]
  rfl
theorem ixD_tup {xs : List PyData} {n : Nat} {d : PyData} (h : xs[n]? = some d) : ixD (.tuple xs) (.int (n : Int)) = some (.d d) := by
  show ((atI xs (n : Int)).map Res.d) = _
  rw [atI_nat h]
  rfl
/-- a drawn place in a list -/
theorem ix_drawn {α : Type} {xs : List α} {f : α → PyData} {r : Int} (h0 : 0 ≤ r) (h1 : r < ((xs.map f).length : Int)) : ∃ x, x ∈ xs ∧ ixD (.list (xs.map f)) (.int r) = some (.d (f x)) ∧ ixD (.tuple (xs.map f)) (.int r) = some (.d (f x)) := by
  rw [List.length_map] at h1
  obtain ⟨n, rfl⟩ := Int.eq_ofNat_of_zero_le h0
  have hn : n < xs.length := by omega
  have g : (xs.map f)[n]? = some (f xs[n]) := by rw [List.getElem?_map, List.getElem?_eq_getElem hn]; rfl
  exact ⟨xs[n], List.getElem_mem hn, ixD_list g, ixD_tup g⟩
theorem idx_fine {ds : List PyData} {y : PyData} (hd : ∀ x ∈ ds, fine x = true) (hy : y ∈ ds) : ∃ j, idxD (.list ds) y = some j ∧ ds[j]? = some y ∧ ∀ m, m < j → ds[m]? ≠ some y := by
  have fy := hd y hy
  have ny := (fine_iff.mp fy).1
  have ex : ∀ l : List PyData, (∀ x ∈ l, fine x = true) → y ∈ l → ∃ j, firstP (fun z => PyData.eqv z y) l = some j := fun l => by
    induction l with
    | nil => exact fun _ h => (nomatch h)
    | cons x xs ih =>
      intro h hm
      unfold firstP
      split
      · exact ⟨0, rfl⟩
      · next hne =>
        rcases List.mem_cons.mp hm with z | z
        · exact absurd ((nice_eqv (fine_iff.mp (h x (List.mem_cons_self ..))).1 ny).mpr z.symm) (by simpa using hne)
        · obtain ⟨j, hj⟩ := ih (fun u hu => h u (List.mem_cons_of_mem _ hu)) z
          exact ⟨j + 1, by rw [hj]; rfl⟩
  obtain ⟨j, hj⟩ := ex ds hd hy
  obtain ⟨z, h1, h2, h3⟩ := firstP_some hj
  have hz := hd z (List.mem_of_getElem? h1)
  have := (nice_eqv (fine_iff.mp hz).1 ny).mp h2
  subst this
  refine ⟨j, ?_, h1, fun m hm e => ?_⟩
  · unfold idxD
    dsimp only
    rw [if_pos (by rw [niceAll_noDict (fines_nice hd), nice_noDict ny, fines_shaped hd, fine_shaped fy]; rfl), hj]
  · have := h3 m z hm e
    rw [(nice_eqv ny ny).mpr rfl] at this
    cases this
/-- a list of data that may be compared -/
def okList (ds : List PyData) : Prop := (∀ x ∈ ds, fine x = true) ∧ ∀ x ∈ ds, ∀ y ∈ ds, alike x y = true
theorem okList.okSort {ds : List PyData} (h : okList ds) : okSort ds = true := by
  unfold G.okSort
  rw [Bool.and_eq_true, Bool.and_eq_true, List.all_eq_true, List.all_eq_true, List.all_eq_true]
  refine ⟨⟨fun x hx => ?_, fun x hx => nice_noDict (fine_iff.mp (h.1 x hx)).1⟩, fun x hx => decide_eq_true (fine_iff.mp (h.1 x hx)).2⟩
  rw [List.all_eq_true]
  exact fun y hy => h.2 x hx y hy
theorem sortP_perm (ds : List PyData) : (sortP ds).Perm ds := List.mergeSort_perm ds _
theorem min_list {x : PyData} {xs : List PyData} (h : okList (x :: xs)) (n : (x :: xs).all notNone = true) : bestD minD [.list (x :: xs)] = some (.d (minD x xs)) ∧ minD x xs ∈ x :: xs := by
  refine ⟨?_, minD_mem xs x⟩
  show (if okSort (x :: xs) && (x :: xs).all notNone then some (Res.d (minD x xs)) else none) = _
  rw [if_pos (by rw [h.okSort, n]; rfl)]
end G
/-! dicts as lists of pairs -/
namespace G
open PySem hiding Env
open PySem.W PyProof.Rows L2 HD
section
variable {α β κ : Type} [DecidableEq α] [DecidableEq κ]
def lookA (T : List (α × β)) (a : α) : Option β := (T.find? fun e => decide (e.1 = a)).map (·.2)
def putA (T : List (α × β)) (a : α) (b : β) : List (α × β) := if (lookA T a).isSome then T.map fun e => if e.1 = a then (e.1, b) else e else T ++ [(a, b)]
def dropA (T : List (α × β)) (a : α) : List (α × β) := T.filter fun e => decide (e.1 ≠ a)
theorem lookA_nil {a : α} : lookA ([] : List (α × β)) a = none := rfl
theorem lookA_cons {e : α × β} {T : List (α × β)} {a : α} : lookA (e :: T) a = if e.1 = a then some e.2 else lookA T a := by
  unfold lookA
  by_cases h : e.1 = a
  · rw [List.find?_cons_of_pos (by simpa using h), if_pos h]
    rfl
  · rw [List.find?_cons_of_neg (by simpa using h), if_neg h]
theorem lookA_some {T : List (α × β)} {a : α} {b : β} (h : lookA T a = some b) : (a, b) ∈ T := by
  induction T with
  | nil => cases h
  | cons e T ih =>
    rw [lookA_cons] at h
    split at h
    · next he =>
      cases h
      rw [← he]
      exact List.mem_cons_self ..
    · exact List.mem_cons_of_mem _ (ih h)
theorem lookA_of {T : List (α × β)} (nd : (T.map (·.1)).Nodup) {a : α} {b : β} (h : (a, b) ∈ T) : lookA T a = some b := by
  induction T with
  | nil => cases h
  | cons e T ih =>
    rw [List.map_cons, List.nodup_cons] at nd
    rw [lookA_cons]
    rcases List.mem_cons.mp h with z | z
    · rw [← z, if_pos rfl]
    · rw [if_neg, ih nd.2 z]
      rintro rfl
      exact nd.1 (List.mem_map.mpr ⟨_, z, rfl⟩)
theorem lookA_isSome {T : List (α × β)} {a : α} : (lookA T a).isSome = true ↔ a ∈ T.map (·.1) := by
  induction T with
  | nil => simp [lookA_nil]
  | cons e T ih =>
    rw [lookA_cons, List.map_cons, List.mem_cons]
    by_cases h : e.1 = a
    · rw [if_pos h]
      simp [h]
    · rw [if_neg h, ih]
      constructor
      · exact .inr
      · rintro (z | z)
        · exact absurd z.symm h
        · exact z
theorem lookA_put {T : List (α × β)} {a c : α} {b : β} : lookA (putA T a b) c = if c = a then some b else lookA T c := by
  unfold putA
  by_cases h : (lookA T a).isSome = true
  · rw [if_pos h]
    have : ∀ T : List (α × β), lookA (T.map fun e => if e.1 = a then (e.1, b) else e) c = if c = a then (if (lookA T a).isSome then some b else none) else lookA T c := fun T => by
      induction T with
      | nil =>
        rw [List.map_nil, lookA_nil]
        split <;> rfl
      | cons e T ih =>
        rw [List.map_cons, lookA_cons, lookA_cons, lookA_cons, ih]
        by_cases he : e.1 = a
        · rw [if_pos he]
          by_cases hc : c = a
          · rw [hc, if_pos (by simpa using he), if_pos rfl, if_pos he]
            rfl
          · rw [if_neg hc, if_neg hc, if_neg (by simpa [he] using fun z => hc z.symm), if_neg (by rw [he]; exact fun z => hc z.symm)]
        · rw [if_neg he]
          by_cases hc : c = a
          · rw [hc, if_neg he, if_pos rfl, if_pos rfl, if_neg he]
          · rw [if_neg hc, if_neg hc]
    rw [this, h]
    rfl
  · rw [if_neg h]
    have : ∀ T : List (α × β), (lookA T a).isSome = false → lookA (T ++ [(a, b)]) c = if c = a then some b else lookA T c := fun T => by
      induction T with
      | nil =>
        intro _
        rw [List.nil_append, lookA_cons, lookA_nil]
        by_cases hc : c = a
        · rw [if_pos hc, if_pos hc.symm]
        · rw [if_neg hc, if_neg fun z => hc z.symm]
      | cons e T ih =>
        intro hn
        rw [lookA_cons] at hn
        by_cases he : e.1 = a
        · rw [if_pos he] at hn
          cases hn
        · rw [if_neg he] at hn
          rw [List.cons_append, lookA_cons, lookA_cons, ih hn]
          by_cases hc : c = a
          · rw [if_pos hc, if_pos hc, if_neg (by rw [hc]; exact he)]
          · rw [if_neg hc, if_neg hc]
    exact this T (by simpa using h)
theorem putA_keys {T : List (α × β)} {a : α} {b : β} : (putA T a b).map (·.1) = if a ∈ T.map (·.1) then T.map (·.1) else T.map (·.1) ++ [a] := by
  unfold putA
  by_cases h : (lookA T a).isSome = true
  · rw [if_pos h, if_pos (lookA_isSome.mp h), List.map_map]
    refine List.map_congr_left fun e _ => ?_
    show (if e.1 = a then (e.1, b) else e).1 = e.1
    split <;> rfl
  · rw [if_neg h, if_neg fun z => h (lookA_isSome.mpr z), List.map_append]
    rfl
theorem putA_nodup {T : List (α × β)} {a : α} {b : β} (h : (T.map (·.1)).Nodup) : ((putA T a b).map (·.1)).Nodup := by
  rw [putA_keys]
  split
  · exact h
  · next hn =>
    rw [List.nodup_append]
    exact ⟨h, by simp, fun x hx y hy => by
      rw [List.mem_singleton.mp hy]
      rintro rfl
      exact hn hx⟩
theorem putA_length {T : List (α × β)} {a : α} {b : β} : (putA T a b).length ≤ T.length + 1 := by
  have := congrArg List.length (putA_keys (T := T) (a := a) (b := b))
  rw [List.length_map] at this
  rw [this]
  split
  · rw [List.length_map]
    omega
  · rw [List.length_append, List.length_map, List.length_singleton]
    exact Nat.le_refl _
theorem lookA_drop {T : List (α × β)} {a c : α} : lookA (dropA T a) c = if c = a then none else lookA T c := by
  unfold dropA
  induction T with
  | nil =>
    rw [List.filter_nil, lookA_nil]
    split <;> rfl
  | cons e T ih =>
    by_cases he : e.1 = a
    · rw [List.filter_cons_of_neg (by simpa using he), ih, lookA_cons]
      by_cases hc : c = a
      · rw [if_pos hc, if_pos hc]
      · rw [if_neg hc, if_neg hc, if_neg (by rw [he]; exact fun z => hc z.symm)]
    · rw [List.filter_cons_of_pos (by simpa using he), lookA_cons, lookA_cons, ih]
      by_cases hc : c = a
      · rw [if_pos hc, if_pos hc, if_neg (by rw [hc]; exact he)]
      · rw [if_neg hc, if_neg hc]
theorem dropA_keys {T : List (α × β)} {a : α} : (dropA T a).map (·.1) = (T.map (·.1)).filter fun x => decide (x ≠ a) := by
  unfold dropA
  rw [List.filter_map]
  rfl
/-! the same in the mirrors' dicts -/
variable (g : α → κ) (v : β → PyData)
def tab (T : List (α × β)) : List (κ × PyData) := T.map fun e => (g e.1, v e.2)
variable {g v}
theorem lookP_tab (hg : ∀ a b, g a = g b → a = b) {T : List (α × β)} {a : α} : lookP (tab g v T) (g a) = (lookA T a).map v := by
  unfold tab
  induction T with
  | nil => rfl
  | cons e T ih =>
    rw [List.map_cons, lookA_cons]
    unfold lookP at ih ⊢
    by_cases h : e.1 = a
    · rw [if_pos h, List.find?_cons_of_pos (by simp [h])]
      rfl
    · rw [if_neg h, List.find?_cons_of_neg (by simpa using fun z => h (hg _ _ z))]
      exact ih
theorem putP_tab (hg : ∀ a b, g a = g b → a = b) {T : List (α × β)} {a : α} {b : β} : putP (tab g v T) (g a) (v b) = tab g v (putA T a b) := by
  unfold putP putA
  rw [lookP_tab hg, Option.isSome_map]
  by_cases h : (lookA T a).isSome = true
  · rw [if_pos h, if_pos h]
    unfold tab
    rw [List.map_map, List.map_map]
    refine List.map_congr_left fun e _ => ?_
    show (if g e.1 = g a then (g e.1, v b) else (g e.1, v e.2)) = (fun e : α × β => (g e.1, v e.2)) (if e.1 = a then (e.1, b) else e)
    by_cases he : e.1 = a
    · rw [if_pos (by rw [he]), if_pos he]
    · rw [if_neg fun z => he (hg _ _ z), if_neg he]
  · rw [if_neg h, if_neg h]
    unfold tab
    rw [List.map_append]
    rfl
theorem dropP_tab (hg : ∀ a b, g a = g b → a = b) {T : List (α × β)} {a : α} : dropP (tab g v T) (g a) = tab g v (dropA T a) := by
  unfold dropP dropA tab
  rw [List.filter_map]
  congr 1
  refine List.filter_congr fun e _ => ?_
  show decide (g e.1 ≠ g a) = decide (e.1 ≠ a)
  exact dec_eq (not_congr ⟨fun z => hg _ _ z, fun z => by rw [z]⟩)
end
/-- keys that are tuples -/
structure KN {α : Type} (k : α → PyData) (g : α → NestedKey) : Prop where
  inj : ∀ a b, g a = g b → a = b
  nk : ∀ a, toNK (k a) = some (g a)
  kn : ∀ a, toK (k a) = none
  tup : ∀ a, ∃ ks, g a = .tup ks ∧ (NestedKey.tup ks).depth ≤ 8
section
variable {α β : Type} [DecidableEq α] {k : α → PyData} {g : α → NestedKey} {v : β → PyData}
theorem KN.back (h : KN k g) (a : α) : nkD (g a) = k a := (nkD_toNK _ _ (h.nk a)).symm
theorem KN.good (h : KN k g) (T : List (α × β)) (a : α) : dGood ((tab g v T).map fun e => (nkD e.1, e.2)) (k a) = true := by
  unfold dGood keyOk kindOk
  rw [h.kn a, h.nk a]
  obtain ⟨ks, e, d⟩ := h.tup a
  rw [e]
  dsimp only
  rw [decide_eq_true d, Bool.true_and, List.all_eq_true]
  intro e he
  obtain ⟨e1, h1, rfl⟩ := List.mem_map.mp he
  obtain ⟨e2, h2, rfl⟩ := List.mem_map.mp h1
  show (toK (nkD (g e2.1))).isNone = true
  rw [h.back, h.kn]
  rfl
theorem KN.look (h : KN k g) (T : List (α × β)) (a : α) : lookD ((tab g v T).map fun e => (nkD e.1, e.2)) (k a) = (lookA T a).map v := by
  unfold lookD
  rw [h.kn a]
  show ((toNK (k a)).bind _) = _
  rw [h.nk a]
  show lookP _ (g a) = _
  rw [fm_nkD, lookP_tab h.inj]
theorem KN.getD (h : KN k g) (T : List (α × β)) (a : α) : getD ((tab g v T).map fun e => (nkD e.1, e.2)) (k a) = (lookA T a).map v := by
  unfold G.getD
  rw [if_pos (h.good T a), h.look]
theorem KN.hasD (h : KN k g) (T : List (α × β)) (a : α) : hasD ((tab g v T).map fun e => (nkD e.1, e.2)) (k a) = some (lookA T a).isSome := by
  unfold G.hasD
  rw [if_pos (h.good T a), h.look, Option.isSome_map]
theorem KN.put (h : KN k g) {T : List (α × β)} (hl : T.length < LIM) (a : α) (b : β) : putOb (.dN (tab g v T)) (k a) (v b) = some (.dN (tab g v (putA T a b))) := by
  unfold putOb
  obtain ⟨ks, e, d⟩ := h.tup a
  have e2 := h.nk a
  rw [e] at e2
  dsimp only
  rw [e2]
  show (if (NestedKey.tup ks).depth ≤ 8 ∧ (tab g v T).length < LIM then some (Ob.dN (putP (tab g v T) (.tup ks) (v b))) else none) = _
  rw [if_pos ⟨d, by unfold tab; rw [List.length_map]; exact hl⟩, ← e, putP_tab h.inj]
theorem KN.pop (h : KN k g) {T : List (α × β)} (hl : T.length < LIM) {a : α} {b : β} (hb : lookA T a = some b) : obDPop (.dN (tab g v T)) [k a] = some (.dN (tab g v (dropA T a)), v b) := by
  unfold obDPop
  obtain ⟨ks, e, d⟩ := h.tup a
  have e2 := h.nk a
  rw [e] at e2
  dsimp only
  rw [e2]
  show (if (NestedKey.tup ks).depth ≤ 8 ∧ (tab g v T).length < LIM then (lookP (tab g v T) (.tup ks)).map fun d => (Ob.dN (dropP (tab g v T) (.tup ks)), d) else none) = _
  rw [if_pos ⟨d, by unfold tab; rw [List.length_map]; exact hl⟩, ← e, lookP_tab h.inj, dropP_tab h.inj, hb]
  rfl
theorem KN.list (h : KN k g) {T : List (α × β)} (hl : T.length < LIM) : listD [.dict ((tab g v T).map fun e => (nkD e.1, e.2))] = some (.l (T.map fun e => k e.1)) := by
  unfold listD tab
  dsimp only
  rw [if_pos (by rw [List.length_map, List.length_map]; exact hl), List.map_map, List.map_map]
  refine congrArg (fun l => some (Res.l l)) (List.map_congr_left fun e _ => ?_)
  exact h.back e.1
end
/-! keys that are texts -/
def kS (x : Str) : Key := .inr x
theorem kS_inj : ∀ a b, kS a = kS b → a = b := fun a b h => by cases h; rfl
section
variable {β : Type} {v : β → PyData}
theorem ks_good (T : List (Str × β)) (a : Str) : dGood ((tab kS v T).map fun e => (kD e.1, e.2)) (.str a) = true := by
  unfold dGood keyOk kindOk
  show (true && List.all _ _) = true
  rw [Bool.true_and, List.all_eq_true]
  intro e he
  obtain ⟨e1, h1, rfl⟩ := List.mem_map.mp he
  obtain ⟨e2, h2, rfl⟩ := List.mem_map.mp h1
  rfl
theorem ks_look (T : List (Str × β)) (a : Str) : lookD ((tab kS v T).map fun e => (kD e.1, e.2)) (.str a) = (lookA T a).map v := by
  show lookP _ (kS a) = _
  rw [fm_kD, lookP_tab kS_inj]
theorem ks_getD (T : List (Str × β)) (a : Str) : getD ((tab kS v T).map fun e => (kD e.1, e.2)) (.str a) = (lookA T a).map v := by
  unfold getD
  rw [if_pos (ks_good T a), ks_look]
theorem ks_hasD (T : List (Str × β)) (a : Str) : hasD ((tab kS v T).map fun e => (kD e.1, e.2)) (.str a) = some (lookA T a).isSome := by
  unfold hasD
  rw [if_pos (ks_good T a), ks_look, Option.isSome_map]
theorem ks_put {T : List (Str × β)} (hl : T.length < LIM) (a : Str) (b : β) : putOb (.dK (tab kS v T)) (.str a) (v b) = some (.dK (tab kS v (putA T a b))) := by
  show (if (tab kS v T).length < LIM then some (Ob.dK (putP (tab kS v T) (kS a) (v b))) else none) = _
  rw [if_pos (by unfold tab; rw [List.length_map]; exact hl), putP_tab kS_inj]
theorem ks_list {T : List (Str × β)} (hl : T.length < LIM) : listD [.dict ((tab kS v T).map fun e => (kD e.1, e.2))] = some (.l (T.map fun e => .str e.1)) := by
  unfold listD tab
  dsimp only
  rw [if_pos (by rw [List.length_map, List.length_map]; exact hl), List.map_map, List.map_map]
  rfl
end
end G
/-! reasoning about mirrors: comprehensions with two walks -/
namespace G
open PySem hiding Env
open PyProof.Rows
theorem wipe_up {ρ ρ' : Env} {vs vs1 : List Nat} (h : wipeE ρ vs1 = wipeE ρ' vs1) (hv : ∀ v ∈ vs1, v ∈ vs) : wipeE ρ vs = wipeE ρ' vs := by
  rw [← wipeE_wipeE hv (ρ := ρ), h, wipeE_wipeE hv]
/-- a turn of the outer walk: what it gives for x -/
def Lc2Turn (f : Mt) (tt : Mi Bool) (src1 : Mi (List PyData)) (f1 : Mt) (tt1 : Mi Bool) (el : Mi Val) (vs vs1 : List Nat) (ρ1 : Env) (x : PyData) (zs : List PyData) : Prop :=
  ∃ ρ2, f x (wipeE ρ1 vs) = some ρ2 ∧ E tt ρ2 fun b ρ3 => b = true ∧ E src1 ρ3 fun ys' ρ4 => ∃ (α : Type) (enc : α → PyData) (g : α → Option PyData) (ys : List α), ys' = ys.map enc ∧ (∀ y ∈ ys, LcTurn f1 tt1 el vs1 ρ4 (enc y) (g y)) ∧ zs = ys.filterMap g ∧ wipeE ρ4 vs = wipeE ρ1 vs
theorem goLc2_eq {f : Mt} {tt : Mi Bool} {src1 : Mi (List PyData)} {f1 : Mt} {tt1 : Mi Bool} {el : Mi Val} {vs vs1 : List Nat} (hv : ∀ v ∈ vs1, v ∈ vs) {ρ1 : Env} {β : Type} {enc : β → PyData} {zs : β → List PyData} : ∀ {xs : List β} (ρ : Env), wipeE ρ vs = wipeE ρ1 vs → (∀ x ∈ xs, Lc2Turn f tt src1 f1 tt1 el vs vs1 ρ1 (enc x) (zs x)) →
    ∃ ρf, goLc2 f tt src1 f1 tt1 el vs vs1 (xs.map enc) ρ = some (xs.flatMap zs, ρf) ∧ wipeE ρf vs = wipeE ρ1 vs
  | [], ρ, e, _ => ⟨ρ, rfl, e⟩
  | x :: xs, ρ, e, h => by
    obtain ⟨ρ2, h1, b, ρ3, h2, rfl, ys', ρ4, h3, α, enc', g, ys, rfl, h4, h5, h6⟩ := h x (List.mem_cons_self ..)
    obtain ⟨ρ5, h7, h8⟩ := goLc_eq ρ4 rfl h4
    have e5 : wipeE ρ5 vs = wipeE ρ1 vs := (wipe_up h8 hv).trans h6
    obtain ⟨ρf, h9, h10⟩ := goLc2_eq (xs := xs) hv ρ5 e5 fun y hy => h y (List.mem_cons_of_mem _ hy)
    refine ⟨ρf, ?_, h10⟩
    rw [List.map_cons, goLc2, e, h1]
    show ((tt ρ2).bind fun b => if b.1 = true then (src1 b.2).bind fun s => (goLc f1 tt1 el vs1 s.1 s.2).bind fun q => (goLc2 f tt src1 f1 tt1 el vs vs1 (xs.map enc) q.2).map fun r => (q.1 ++ r.1, r.2)
      else goLc2 f tt src1 f1 tt1 el vs vs1 (xs.map enc) b.2) = _
    rw [h2]
    show ((src1 ρ3).bind fun s => (goLc f1 tt1 el vs1 s.1 s.2).bind fun q => (goLc2 f tt src1 f1 tt1 el vs vs1 (xs.map enc) q.2).map fun r => (q.1 ++ r.1, r.2)) = _
    rw [h3]
    show ((goLc f1 tt1 el vs1 (ys.map enc') ρ4).bind fun q => (goLc2 f tt src1 f1 tt1 el vs vs1 (xs.map enc) q.2).map fun r => (q.1 ++ r.1, r.2)) = _
    rw [h7]
    show ((goLc2 f tt src1 f1 tt1 el vs vs1 (xs.map enc) ρ5).map fun r => (ys.filterMap g ++ r.1, r.2)) = _
    rw [h9, List.flatMap_cons, h5]
    rfl
theorem E_lc2 {src : Mi (List PyData)} {f : Mt} {tt : Mi Bool} {src1 : Mi (List PyData)} {f1 : Mt} {tt1 : Mi Bool} {el : Mi Val} {vs vs1 : List Nat} {ρ : Env} {Q : Val → Env → Prop} {β : Type} (enc : β → PyData) (zs : β → List PyData) (hv : ∀ v ∈ vs1, v ∈ vs)
    (h : E src ρ fun xs' ρ1 => ∃ xs : List β, xs' = xs.map enc ∧ (∀ x ∈ xs, Lc2Turn f tt src1 f1 tt1 el vs vs1 ρ1 (enc x) (zs x)) ∧ (xs.flatMap zs).length < LIM ∧ (∀ v ∈ vs, ρ1[v]? = some .non ∨ ∃ d, ρ1[v]? = some (.dat d)) ∧ Q (.fr (.lst (xs.flatMap zs))) ρ1) : E (mLc2 src f tt src1 f1 tt1 el vs vs1) ρ Q := by
  obtain ⟨xs', ρ1, h1, xs, rfl, h2, h3, h4, q⟩ := h
  obtain ⟨ρf, h5, h6⟩ := goLc2_eq hv ρ1 rfl h2
  refine ⟨_, ρ1, ?_, q⟩
  unfold mLc2
  rw [h1]
  show ((goLc2 f tt src1 f1 tt1 el vs vs1 (xs.map enc) ρ1).bind _) = _
  rw [h5]
  show ((chk (∀ v ∈ vs1, v ∈ vs)).bind fun _ => lcEnd ρ1 vs (xs.flatMap zs, ρf)) = _
  rw [show chk (∀ v ∈ vs1, v ∈ vs) = some () from if_pos hv]
  show lcEnd ρ1 vs (xs.flatMap zs, ρf) = _
  unfold lcEnd
  rw [show chk ((xs.flatMap zs).length < LIM ∧ ∀ v ∈ vs, v < ρ1.length) = some () from if_pos ⟨h3, fun v hv => ?_⟩]
  · show ((restE ρ1 ρf vs).map fun ρ2 => (Val.fr (.lst (xs.flatMap zs)), ρ2)) = _
    rw [restE_back h4 h6]
    rfl
  · rcases h4 v hv with z | ⟨d, z⟩
    · exact (List.getElem?_eq_some_iff.mp z).1
    · exact (List.getElem?_eq_some_iff.mp z).1
end G
/-! mirrors of pure expressions, told by what they give -/
namespace G
open PySem hiding Env
open PySem.W PyProof.Rows L2 HD
/-- data, the slots as they are -/
def Ev (m : Mi Val) (ρ : Env) (d : PyData) : Prop := fz m ρ = some (.d d, ρ)
/-- a value that may be read -/
def Er (m : Mi Val) (ρ : Env) (d : PyData) : Prop := ∃ a, fz m ρ = some (a, ρ) ∧ a.res ρ = some d
section
variable {m ma mb mc my mk mo : Mi Val} {ρ ρ2 : Env} {a b c d v x y k : PyData} {f : PyData → PyData → Option Res} {l : List PyData}
theorem Ev.r (h : Ev m ρ d) : Er m ρ d := ⟨_, h, rfl⟩
theorem Ev.kp {Q : AV → Env → Prop} (h : Ev m ρ d) (q : Q (.d d) ρ) : E (fz m) ρ Q := .keep h q
theorem ev_of {w : Val} (h : m ρ = some (w, ρ)) (hv : w.av = some (.d d)) : Ev m ρ d := by
  unfold Ev fz
  rw [h]
  show (w.av.map _) = _
  rw [hv]
  rfl
theorem m2_val {o : Res} (ha : Er ma ρ a) (hb : Er mb ρ b) (h : f a b = some o) : m2 f ma mb ρ = some (o.val, ρ) := by
  obtain ⟨u, h1, h2⟩ := ha
  obtain ⟨w, h3, h4⟩ := hb
  unfold m2
  rw [h1]
  show ((fz mb ρ).bind fun b => (u.res b.2).bind fun x => (b.1.res b.2).bind fun y => (f x y).map fun o => (o.val, b.2)) = _
  rw [h3]
  show ((u.res ρ).bind fun x => (w.res ρ).bind fun y => (f x y).map fun o => (o.val, ρ)) = _
  rw [h2, h4]
  show ((f a b).map fun o => (o.val, ρ)) = _
  rw [h]
  rfl
theorem ev_m2 (ha : Er ma ρ a) (hb : Er mb ρ b) (h : f a b = some (.d v)) : Ev (m2 f ma mb) ρ v := ev_of (m2_val ha hb h) rfl
theorem ev_m2l (ha : Er ma ρ a) (hb : Er mb ρ b) (h : f a b = some (.l l)) : Ev (m2 f ma mb) ρ (.list l) := ev_of (m2_val ha hb h) rfl
theorem tst_m2 {t : Bool} (ha : Er ma ρ a) (hb : Er mb ρ b) (h : f a b = some (.d (.bool t))) : mtst (m2 f ma mb) ρ = some (t, ρ) := by
  unfold mtst
  rw [m2_val ha hb h]
  rfl
theorem ev_m1 {f : PyData → Option Res} (ha : Er ma ρ a) (h : f a = some (.d v)) : Ev (m1 f ma) ρ v := by
  obtain ⟨u, h1, h2⟩ := ha
  refine ev_of (w := .d v) ?_ rfl
  unfold m1
  rw [h1]
  show ((u.res ρ).bind fun x => (f x).map fun o => (o.val, ρ)) = _
  rw [h2]
  show ((f a).map fun o => (o.val, ρ)) = _
  rw [h]
  rfl
theorem n1_val {f : List PyData → Option Res} {o : Res} (ha : Er ma ρ a) (h : f [a] = some o) : mN f [ma] ρ = some (o.val, ρ) := by
  obtain ⟨u, h1, h2⟩ := ha
  unfold mN mArgs
  rw [h1]
  show ((resAll ρ [u]).bind fun xs => (f xs).map fun o => (o.val, ρ)) = _
  have : resAll ρ [u] = some [a] := by
    show ((u.res ρ).bind fun x => (resAll ρ []).map fun xs => x :: xs) = _
    rw [h2]
    rfl
  rw [this]
  show ((f [a]).map fun o => (o.val, ρ)) = _
  rw [h]
  rfl
theorem ev_n1 {f : List PyData → Option Res} (ha : Er ma ρ a) (h : f [a] = some (.d v)) : Ev (mN f [ma]) ρ v := ev_of (n1_val ha h) rfl
theorem ev_n1l {f : List PyData → Option Res} (ha : Er ma ρ a) (h : f [a] = some (.l l)) : Ev (mN f [ma]) ρ (.list l) := ev_of (n1_val ha h) rfl
theorem n2_val {f : List PyData → Option Res} {o : Res} (ha : Er ma ρ a) (hb : Er mb ρ b) (h : f [a, b] = some o) : mN f [ma, mb] ρ = some (o.val, ρ) := by
  obtain ⟨u, h1, h2⟩ := ha
  obtain ⟨w, h3, h4⟩ := hb
  unfold mN mArgs
  rw [h1]
  show (((mArgs [mb] ρ).bind fun r => some (u :: r.1, r.2)).bind _) = _
  unfold mArgs
  rw [h3]
  show ((resAll ρ [u, w]).bind fun xs => (f xs).map fun o => (o.val, ρ)) = _
  have : resAll ρ [u, w] = some [a, b] := by
    show ((u.res ρ).bind fun x => ((w.res ρ).bind fun y => (resAll ρ []).map fun xs => y :: xs).map fun xs => x :: xs) = _
    rw [h2, h4]
    rfl
  rw [this]
  show ((f [a, b]).map fun o => (o.val, ρ)) = _
  rw [h]
  rfl
theorem ev_n2 {f : List PyData → Option Res} (ha : Er ma ρ a) (hb : Er mb ρ b) (h : f [a, b] = some (.d v)) : Ev (mN f [ma, mb]) ρ v := ev_of (n2_val ha hb h) rfl
theorem ev_tst {t : Bool} (h : m ρ = some (.d (.bool t), ρ)) : mtst m ρ = some (t, ρ) := by
  unfold mtst
  rw [h]
  rfl
theorem not_of {c : Mi Bool} {t : Bool} (h : c ρ = some (t, ρ)) : mNot c ρ = some (!t, ρ) := by
  unfold mNot
  rw [h]
  rfl
theorem part_some {i : Int} (h : Ev m ρ (.int i)) : mPartI (some m) ρ = some (some i, ρ) := by
  show ((fz m ρ).bind _) = _
  rw [h]
  rfl
theorem part_none : mPartI none ρ = some (none, ρ) := rfl
theorem sl_val {lo hi : Option (Mi Val)} {p q : Option Int} {o : Res} (hm : Er m ρ d) (hl : mPartI lo ρ = some (p, ρ)) (hu : mPartI hi ρ = some (q, ρ)) (h : slD p q d = some o) : mSl m lo hi ρ = some (o.val, ρ) := by
  obtain ⟨u, h1, h2⟩ := hm
  unfold mSl
  rw [h1]
  show ((mPartI lo ρ).bind _) = _
  rw [hl]
  show ((mPartI hi ρ).bind _) = _
  rw [hu]
  show ((u.res ρ).bind _) = _
  rw [h2]
  show ((slD p q d).map fun o => (o.val, ρ)) = _
  rw [h]
  rfl
theorem ev_sl {lo hi : Option (Mi Val)} {p q : Option Int} (hm : Er m ρ d) (hl : mPartI lo ρ = some (p, ρ)) (hu : mPartI hi ρ = some (q, ρ)) (h : slD p q d = some (.d v)) : Ev (mSl m lo hi) ρ v := ev_of (sl_val hm hl hu h) rfl
theorem ev_sll {lo hi : Option (Mi Val)} {p q : Option Int} (hm : Er m ρ d) (hl : mPartI lo ρ = some (p, ρ)) (hu : mPartI hi ρ = some (q, ρ)) (h : slD p q d = some (.l l)) : Ev (mSl m lo hi) ρ (.list l) := ev_of (sl_val hm hl hu h) rfl
theorem ev_idx {j : Nat} (hm : Er m ρ x) (hy : Er my ρ y) (h : idxD x y = some j) : Ev (mIdx m my) ρ (.int (j : Int)) := by
  obtain ⟨u, h1, h2⟩ := hm
  obtain ⟨w, h3, h4⟩ := hy
  refine ev_of (w := .d (.int (j : Int))) ?_ rfl
  unfold mIdx
  rw [h1]
  show ((u.res ρ).bind _) = _
  rw [h2]
  show ((fz my ρ).bind _) = _
  rw [h3]
  show ((u.res ρ).bind _) = _
  rw [h2]
  show ((chk (tyD x = tyD x)).bind fun _ => (w.res ρ).bind fun y => (idxD x y).map fun (j : Nat) => (Val.d (.int (j : Int)), ρ)) = _
  rw [h4, show chk (tyD x = tyD x) = some () from if_pos rfl]
  show ((idxD x y).map fun (j : Nat) => (Val.d (.int (j : Int)), ρ)) = _
  rw [h]
  rfl
theorem ev_dget {e : List (PyData × PyData)} (ho : Er mo ρ (.dict e)) (hk : Ev mk ρ k) (h : getD e k = some v) : Ev (mDGet mo mk) ρ v := by
  obtain ⟨u, h1, h2⟩ := ho
  refine ev_of (w := .d v) ?_ rfl
  unfold mDGet
  rw [h1]
  show ((fz mk ρ).bind _) = _
  rw [hk]
  show ((u.res ρ).bind _) = _
  rw [h2]
  show ((getD e k).map fun x => (Val.d x, ρ)) = _
  rw [h]
  rfl
theorem tst_din {neg t : Bool} {e : List (PyData × PyData)} (hk : Ev mk ρ k) (ho : Er mo ρ (.dict e)) (h : hasD e k = some t) : mtst (mDIn neg mk mo) ρ = some (if neg then !t else t, ρ) := by
  obtain ⟨u, h1, h2⟩ := ho
  refine ev_tst ?_
  unfold mDIn
  rw [hk]
  show ((fz mo ρ).bind _) = _
  rw [h1]
  show ((u.res ρ).bind _) = _
  rw [h2]
  show ((hasD e k).map fun x => (Val.d (.bool (if neg then !x else x)), ρ)) = _
  rw [h]
  rfl
/-! arguments, tuples, calls -/
theorem as_nil : mArgs [] ρ = some (([] : List PyData).map AV.d, ρ) := rfl
theorem as_cons {ms : List (Mi Val)} {ds : List PyData} (h : Ev m ρ d) (t : mArgs ms ρ = some (ds.map AV.d, ρ)) : mArgs (m :: ms) ρ = some ((d :: ds).map AV.d, ρ) := by
  unfold mArgs
  rw [h]
  show ((mArgs ms ρ).bind fun r => some (AV.d d :: r.1, r.2)) = _
  rw [t]
  rfl
theorem datAll_map : ∀ ds : List PyData, datAll (ds.map AV.d) = some ds
  | [] => rfl
  | d :: ds => by
    show ((datAll (ds.map AV.d)).map fun xs => d :: xs) = _
    rw [datAll_map ds]
    rfl
theorem ev_tup {ms : List (Mi Val)} {ds : List PyData} (h : mArgs ms ρ = some (ds.map AV.d, ρ)) : Ev (mTup ms) ρ (.tuple ds) := by
  refine ev_of (w := .d (.tuple ds)) ?_ rfl
  unfold mTup
  rw [h]
  show ((datAll (ds.map AV.d)).map fun xs => (Val.d (.tuple xs), ρ)) = _
  rw [datAll_map]
  rfl
theorem lst_val {ms : List (Mi Val)} {ds : List PyData} (h : mArgs ms ρ = some (ds.map AV.d, ρ)) : mLst ms ρ = some (.fr (.lst ds), ρ) := by
  unfold mLst
  rw [h]
  show ((datAll (ds.map AV.d)).map fun xs => (Val.fr (.lst xs), ρ)) = _
  rw [datAll_map]
  rfl
theorem ev_lst {ms : List (Mi Val)} {ds : List PyData} (h : mArgs ms ρ = some (ds.map AV.d, ρ)) : Ev (mLst ms) ρ (.list ds) := ev_of (lst_val h) rfl
theorem call_val {mf : Mf} {ms : List (Mi Val)} {ds : List PyData} (hm : mArgs ms ρ = some (ds.map AV.d, ρ)) (hf : mf (ds.map Sl.dat) = some (.dt x, ds.map Sl.dat)) : mCall mf ms ρ = some (.d x, ρ) := by
  have hb : ∀ ds : List PyData, bors (ds.map AV.d) = [] := fun ds => by
    induction ds with
    | nil => rfl
    | cons d ds ih => exact ih
  have hbind : ∀ (ds : List PyData) (n : Nat), bindA ρ n (ds.map AV.d) = some (ds.map Sl.dat) := fun ds n => by
    induction ds with
    | nil => rfl
    | cons d ds ih =>
      show ((bindA ρ n (ds.map AV.d)).map fun r => Sl.dat d :: r) = _
      rw [ih]
      rfl
  have hback : ∀ (ds : List PyData) (ρ : Env), backA ρ (ds.map AV.d) (ds.map Sl.dat) = some ρ := fun ds ρ => by
    induction ds with
    | nil => rfl
    | cons d ds ih => exact ih
  unfold mCall
  rw [hm]
  show ((chk (bors (ds.map AV.d)).Nodup).bind fun _ => (bindA ρ 0 (ds.map AV.d)).bind fun ρ0 => (mf ρ0).bind fun q => (q.1.val (ds.map AV.d)).bind fun v => (backA ρ (ds.map AV.d) q.2).map fun ρ2 => (v, ρ2)) = _
  rw [hb, show chk (([] : List Nat).Nodup) = some () from if_pos List.nodup_nil, hbind]
  show ((mf (ds.map Sl.dat)).bind _) = _
  rw [hf]
  show ((backA ρ (ds.map AV.d) (ds.map Sl.dat)).map fun ρ2 => (Val.d x, ρ2)) = _
  rw [hback]
  rfl
theorem ev_call {mf : Mf} {ms : List (Mi Val)} {ds : List PyData} (hm : mArgs ms ρ = some (ds.map AV.d, ρ)) (hf : mf (ds.map Sl.dat) = some (.dt x, ds.map Sl.dat)) : Ev (mCall mf ms) ρ x := ev_of (call_val hm hf) rfl
theorem tst_call {mf : Mf} {ms : List (Mi Val)} {ds : List PyData} {t : Bool} (hm : mArgs ms ρ = some (ds.map AV.d, ρ)) (hf : mf (ds.map Sl.dat) = some (.dt (.bool t), ds.map Sl.dat)) : mtst (mCall mf ms) ρ = some (t, ρ) := ev_tst (call_val hm hf)
theorem callR_val {mf : Mf} {ms : List (Mi Val)} {ds : List PyData} (hm : mArgs ms ρ = some (ds.map AV.d, ρ)) (hf : mf (ds.reverse.map Sl.dat) = some (.dt x, ds.reverse.map Sl.dat)) : mCallR mf ms ρ = some (.d x, ρ) := by
  have key := call_val (mf := mf) (ms := ds.reverse.map fun d => mC d) (ρ := ρ) (ds := ds.reverse) (x := x) (by
    have : ∀ l : List PyData, mArgs (l.map fun d => mC d) ρ = some (l.map AV.d, ρ) := fun l => by
      induction l with
      | nil => rfl
      | cons d l ih => exact as_cons rfl ih
    exact this _) hf
  unfold mCallR
  rw [hm]
  show ((chk (bors (ds.map AV.d).reverse).Nodup).bind fun _ => (bindA ρ 0 (ds.map AV.d).reverse).bind fun ρ0 => (mf ρ0).bind fun q => (q.1.val (ds.map AV.d).reverse).bind fun v => (backA ρ (ds.map AV.d).reverse q.2).map fun ρ2 => (v, ρ2)) = _
  rw [← List.map_reverse]
  unfold mCall at key
  have : ∀ l : List PyData, mArgs (l.map fun d => mC d) ρ = some (l.map AV.d, ρ) := fun l => by
    induction l with
    | nil => rfl
    | cons d l ih => exact as_cons rfl ih
  rw [this] at key
  exact key
theorem ev_callR {mf : Mf} {ms : List (Mi Val)} {ds : List PyData} (hm : mArgs ms ρ = some (ds.map AV.d, ρ)) (hf : mf (ds.reverse.map Sl.dat) = some (.dt x, ds.reverse.map Sl.dat)) : Ev (mCallR mf ms) ρ x := ev_of (callR_val hm hf) rfl
theorem putL {ds : List PyData} {n : Nat} (h : n < ds.length) : putOb (.lst ds) (.int (n : Int)) d = some (.lst (ds.set n d)) := by
  show ((ixN ds.length (n : Int)).map fun n => Ob.lst (ds.set n d)) = _
  have : ixN ds.length (n : Int) = some n := by
    unfold ixN
    rw [if_pos (by omega), if_pos (by omega)]
    simp
  rw [this]
  rfl
/-! statements -/
variable {Q : Out → Prop} {s t : Ms}
theorem ws_set {i : Nat} (h : Ev m ρ d) (q : Q (.nx (ρ.set i (.dat d)))) : WS (mSet i m) ρ Q := WS_set (h.kp ⟨_, rfl, q⟩)
theorem ws_setO {i : Nat} {o : Ob} (h : m ρ = some (.fr o, ρ)) (q : Q (.nx (ρ.set i (.own o)))) : WS (mSetO i m) ρ Q := WS_setO ⟨_, ρ, h, _, rfl, q⟩
theorem ws_asg {f : Mt} (h : Er m ρ d) (hf : f d ρ = some ρ2) (q : Q (.nx ρ2)) : WS (mAsg f m) ρ Q := by
  obtain ⟨u, h1, h2⟩ := h
  exact WS_asg (.keep h1 ⟨_, _, h2, hf, q⟩)
theorem ws_ret (h : Ev m ρ d) (q : Q (.rt d ρ)) : WS (mRet m) ρ Q := WS_ret (h.kp ⟨_, rfl, q⟩)
theorem ws_if {c : Mi Bool} {u : Bool} (h : c ρ = some (u, ρ2)) (q : if u = true then WS s ρ2 Q else WS t ρ2 Q) : WS (mIf c s t) ρ Q := WS_if ⟨u, ρ2, h, q⟩
theorem ws_nil (q : Q (.nx ρ)) : WS mNil ρ Q := ⟨_, rfl, q⟩
theorem ws_put {i : Nat} {o o' : Ob} (hv : Ev mo ρ d) (hk : Ev mk ρ k) (hs : slotOb ρ i = some o) (hp : putOb o k d = some o') (q : Q (.nx (setOb ρ i o'))) : WS (mPut i mk mo) ρ Q := WS_put (hv.kp ⟨by rw [hs]; rfl, hk.kp ⟨_, _, _, _, rfl, rfl, hs, hp, q⟩⟩)
theorem ws_append {i : Nat} {l : List PyData} (hs : slotOb ρ i = some (.lst l)) (hv : Ev m ρ d) (hl : l.length < LIM) (q : Q (.nx (setOb ρ i (.lst (l ++ [d]))))) : WS (mExp (mMeth "list" obAppend i [m])) ρ Q := WS_exp (E_append hs (hv.kp ⟨_, _, rfl, hs, hl, q⟩))
theorem rt_end {ds : Env} (e : x = y) (h : parsBack ds ρ = some ds) : ∃ ρ', Out.rt x ρ = .rt y ρ' ∧ parsBack ds ρ' = some ds := ⟨ρ, by rw [e], h⟩
/-- i and its part of a tuple: the tuple with another thing there -/
theorem ev_splice {ds : List PyData} {i : Nat} (hm : Ev m ρ (.tuple ds)) (hi : Ev my ρ (.int (i : Int))) (hd : Ev mo ρ d) (h : i < ds.length) (hl : ds.length ≤ 1000) : Ev (m2 addD (m2 addD (mSl m none (some my)) (mTup [mo])) (mSl m (some (m2 addD my (mC (.int 1)))) none)) ρ (.tuple (ds.set i d)) := by
  have c1 : cutD ds none (some (i : Int)) = ds.take i := by
    unfold cutD
    rw [HT.sIx_none, HT.sIx_nat, Nat.min_eq_left (Nat.le_of_lt h), List.drop_zero, Nat.sub_zero]
  have c2 : cutD ds (some ((i + 1 : Nat) : Int)) none = ds.drop (i + 1) := by
    unfold cutD
    rw [HT.sIx_none, HT.sIx_nat, Nat.min_eq_left h]
    exact List.take_of_length_le (by rw [List.length_drop]; exact Nat.le_refl _)
  have e : ds.set i d = ds.take i ++ [d] ++ ds.drop (i + 1) := by
    rw [List.set_eq_take_append_cons_drop, if_pos h, List.append_assoc]
    rfl
  have add : ∀ xs ys : List PyData, xs.length + ys.length ≤ 2000 → addD (.tuple xs) (.tuple ys) = some (.d (.tuple (xs ++ ys))) := fun xs ys h => if_pos (Nat.lt_of_le_of_lt h (by decide))
  rw [e]
  refine ev_m2 (ev_m2 (ev_sl hm.r part_none (part_some hi) (v := .tuple (ds.take i)) ?_).r (ev_tup (as_cons hd as_nil)).r (add _ _ ?_)).r (ev_sl hm.r (part_some (ev_m2 hi.r ⟨_, rfl, rfl⟩ rfl)) part_none (v := .tuple (ds.drop (i + 1))) ?_).r (add _ _ ?_)
  · rw [← c1]
    rfl
  · rw [List.length_take]
    simp
    omega
  · rw [← c2]
    rfl
  · rw [List.length_append, List.length_take, List.length_drop]
    simp
    omega
end
end G
/-! the text of law_k28_cases by places, its scopes -/
namespace K2
open PySem PyProof.Rows L2 HD
def top (i : Nat) : Stmt := PySem.Challenge.pw_fewestbends_k28_cases.main.body.getD i (.Pass ⟨0, 0, 0, 0⟩)
abbrev s_turn_table : Stmt := top 6
theorem sc_turn_table : FnScope ["web", "name", "ways"] ["web"] (defScope s_turn_table) := ⟨rfl, rfl, rfl, by decide +kernel, rfl, by decide +kernel, by decide +kernel⟩
abbrev s_names_of : Stmt := top 7
theorem sc_names_of : FnScope ["web", "name", "_"] ["web"] (defScope s_names_of) := ⟨rfl, rfl, rfl, by decide +kernel, rfl, by decide +kernel, by decide +kernel⟩
abbrev s_dart_list : Stmt := top 8
theorem sc_dart_list : FnScope ["web", "name", "ways", "other"] ["web"] (defScope s_dart_list) := ⟨rfl, rfl, rfl, by decide +kernel, rfl, by decide +kernel, by decide +kernel⟩
abbrev s_link_list : Stmt := top 9
theorem sc_link_list : FnScope ["web", "name", "other"] ["web"] (defScope s_link_list) := ⟨rfl, rfl, rfl, by decide +kernel, rfl, by decide +kernel, by decide +kernel⟩
abbrev s_link_of : Stmt := top 10
theorem sc_link_of : FnScope ["a", "b"] ["a", "b"] (defScope s_link_of) := ⟨rfl, rfl, rfl, by decide +kernel, rfl, by decide +kernel, by decide +kernel⟩
abbrev s_are_neighbours : Stmt := top 11
theorem sc_are_neighbours : FnScope ["web", "a", "b"] ["web", "a", "b"] (defScope s_are_neighbours) := ⟨rfl, rfl, rfl, by decide +kernel, rfl, by decide +kernel, by decide +kernel⟩
abbrev s_dart_or_raise : Stmt := top 12
theorem sc_dart_or_raise : FnScope ["web", "a", "b"] ["web", "a", "b"] (defScope s_dart_or_raise) := ⟨rfl, rfl, rfl, by decide +kernel, rfl, by decide +kernel, by decide +kernel⟩
abbrev s_corner_place : Stmt := top 14
theorem sc_corner_place : FnScope ["web", "a", "b"] ["web", "a", "b"] (defScope s_corner_place) := ⟨rfl, rfl, rfl, by decide +kernel, rfl, by decide +kernel, by decide +kernel⟩
abbrev s_link_place : Stmt := top 15
theorem sc_link_place : FnScope ["web", "a", "b"] ["web", "a", "b"] (defScope s_link_place) := ⟨rfl, rfl, rfl, by decide +kernel, rfl, by decide +kernel, by decide +kernel⟩
abbrev s_corner_rule : Stmt := top 16
theorem sc_corner_rule : FnScope ["web", "rules", "a", "b", "place", "corner"] ["web", "rules", "a", "b"] (defScope s_corner_rule) := ⟨rfl, rfl, rfl, by decide +kernel, rfl, by decide +kernel, by decide +kernel⟩
abbrev s_turned_bounds : Stmt := top 17
theorem sc_turned_bounds : FnScope ["low", "high", "a", "b"] ["low", "high", "a", "b"] (defScope s_turned_bounds) := ⟨rfl, rfl, rfl, by decide +kernel, rfl, by decide +kernel, by decide +kernel⟩
abbrev s_swing_rule : Stmt := top 18
theorem sc_swing_rule : FnScope ["web", "rules", "a", "b", "low", "high", "_"] ["web", "rules", "a", "b"] (defScope s_swing_rule) := ⟨rfl, rfl, rfl, by decide +kernel, rfl, by decide +kernel, by decide +kernel⟩
abbrev s_put_at : Stmt := top 19
theorem sc_put_at : FnScope ["row", "place", "thing"] ["row", "place", "thing"] (defScope s_put_at) := ⟨rfl, rfl, rfl, by decide +kernel, rfl, by decide +kernel, by decide +kernel⟩
abbrev s_corner_put : Stmt := top 20
theorem sc_corner_put : FnScope ["web", "rules", "a", "b", "rule", "place", "corner"] ["web", "rules", "a", "b", "rule"] (defScope s_corner_put) := ⟨rfl, rfl, rfl, by decide +kernel, rfl, by decide +kernel, by decide +kernel⟩
abbrev s_swing_put : Stmt := top 21
theorem sc_swing_put : FnScope ["web", "rules", "a", "b", "low", "high", "place", "rule"] ["web", "rules", "a", "b", "low", "high"] (defScope s_swing_put) := ⟨rfl, rfl, rfl, by decide +kernel, rfl, by decide +kernel, by decide +kernel⟩
abbrev s_rule_of : Stmt := top 23
theorem sc_rule_of : FnScope ["web", "rules", "claim", "kind", "a", "b", "_"] ["web", "rules", "claim"] (defScope s_rule_of) := ⟨rfl, rfl, rfl, by decide +kernel, rfl, by decide +kernel, by decide +kernel⟩
abbrev s_narrowed : Stmt := top 24
theorem sc_narrowed : FnScope ["web", "rules", "claim", "low", "high", "kind", "a", "b", "_", "least", "most"] ["web", "rules", "claim", "low", "high"] (defScope s_narrowed) := ⟨rfl, rfl, rfl, by decide +kernel, rfl, by decide +kernel, by decide +kernel⟩
abbrev s_claim_narrowed : Stmt := top 25
theorem sc_claim_narrowed : FnScope ["web", "rules", "claim"] ["web", "rules", "claim"] (defScope s_claim_narrowed) := ⟨rfl, rfl, rfl, by decide +kernel, rfl, by decide +kernel, by decide +kernel⟩
abbrev s_ask_list : Stmt := top 27
theorem sc_ask_list : FnScope ["ask", "rows", "rules"] ["ask", "rows"] (defScope s_ask_list) := ⟨rfl, rfl, rfl, by decide +kernel, rfl, by decide +kernel, by decide +kernel⟩
abbrev s_case_list : Stmt := top 28
theorem sc_case_list : FnScope ["ask", "claim"] ["ask", "claim"] (defScope s_case_list) := ⟨rfl, rfl, rfl, by decide +kernel, rfl, by decide +kernel, by decide +kernel⟩
abbrev s_denial_list : Stmt := top 29
theorem sc_denial_list : FnScope ["ask", "claim", "below"] ["ask", "claim"] (defScope s_denial_list) := ⟨rfl, rfl, rfl, by decide +kernel, rfl, by decide +kernel, by decide +kernel⟩
abbrev s_cases_of : Stmt := top 30
theorem sc_cases_of : FnScope ["ask", "claim"] ["ask", "claim"] (defScope s_cases_of) := ⟨rfl, rfl, rfl, by decide +kernel, rfl, by decide +kernel, by decide +kernel⟩
abbrev s_denial_cases : Stmt := top 31
theorem sc_denial_cases : FnScope ["ask", "claim"] ["ask", "claim"] (defScope s_denial_cases) := ⟨rfl, rfl, rfl, by decide +kernel, rfl, by decide +kernel, by decide +kernel⟩
abbrev s_law_pool : Stmt := top 33
theorem sc_law_pool : FnScope ["script", "state", "great", "cell", "size"] ["script"] (defScope s_law_pool) := ⟨rfl, rfl, rfl, by decide +kernel, rfl, by decide +kernel, by decide +kernel⟩
abbrev s_law_take : Stmt := top 34
theorem sc_law_take : FnScope ["pool", "many", "great", "size"] ["pool", "many"] (defScope s_law_take) := ⟨rfl, rfl, rfl, by decide +kernel, rfl, by decide +kernel, by decide +kernel⟩
abbrev s_law_links : Stmt := top 35
theorem sc_law_links : FnScope ["web", "links", "name", "ways", "other"] ["web"] (defScope s_law_links) := ⟨rfl, rfl, rfl, by decide +kernel, rfl, by decide +kernel, by decide +kernel⟩
abbrev s_law_faces : Stmt := top 36
theorem sc_law_faces : FnScope ["web", "table", "name", "ways", "done", "faces", "other", "dart", "walk", "row", "at"] ["web"] (defScope s_law_faces) := ⟨rfl, rfl, rfl, by decide +kernel, rfl, by decide +kernel, by decide +kernel⟩
abbrev s_law_sides : Stmt := top 37
theorem sc_law_sides : FnScope ["faces", "sides", "k", "dart"] ["faces"] (defScope s_law_sides) := ⟨rfl, rfl, rfl, by decide +kernel, rfl, by decide +kernel, by decide +kernel⟩
abbrev s_law_word : Stmt := top 38
theorem sc_law_word : FnScope ["pool", "at", "letters", "word"] ["pool", "at"] (defScope s_law_word) := ⟨rfl, rfl, rfl, by decide +kernel, rfl, by decide +kernel, by decide +kernel⟩
abbrev s_law_named : Stmt := top 39
theorem sc_law_named : FnScope ["pool", "table", "words", "ways", "spot", "row", "other", "at", "web", "name", "faces"] ["pool", "table", "words"] (defScope s_law_named) := ⟨rfl, rfl, rfl, by decide +kernel, rfl, by decide +kernel, by decide +kernel⟩
abbrev s_law_grid : Stmt := top 40
theorem sc_law_grid : FnScope ["pool", "wide", "high", "most", "spots", "links", "lap", "x", "y", "dx", "dy", "other", "table", "near"] ["pool", "wide", "high", "most"] (defScope s_law_grid) := ⟨rfl, rfl, rfl, by decide +kernel, rfl, by decide +kernel, by decide +kernel⟩
abbrev s_law_smoothed : Stmt := top 41
theorem sc_law_smoothed : FnScope ["pool", "table", "spot", "row", "one", "other", "near"] ["pool", "table"] (defScope s_law_smoothed) := ⟨rfl, rfl, rfl, by decide +kernel, rfl, by decide +kernel, by decide +kernel⟩
abbrev s_law_map : Stmt := top 42
theorem sc_law_map : FnScope ["pool", "most", "table", "words", "spot"] ["pool", "most"] (defScope s_law_map) := ⟨rfl, rfl, rfl, by decide +kernel, rfl, by decide +kernel, by decide +kernel⟩
abbrev s_law_free : Stmt := top 43
theorem sc_law_free : FnScope ["web", "corners", "name", "ways"] ["web"] (defScope s_law_free) := ⟨rfl, rfl, rfl, by decide +kernel, rfl, by decide +kernel, by decide +kernel⟩
abbrev s_law_rules : Stmt := top 44
theorem sc_law_rules : FnScope ["pool", "web", "corners", "tight", "name", "ways", "row", "other", "low", "high", "links", "most", "link"] ["pool", "web"] (defScope s_law_rules) := ⟨rfl, rfl, rfl, by decide +kernel, rfl, by decide +kernel, by decide +kernel⟩
abbrev s_law_claim : Stmt := top 45
theorem sc_law_claim : FnScope ["pool", "web", "sides", "darts", "one", "other", "low", "high"] ["pool", "web"] (defScope s_law_claim) := ⟨rfl, rfl, rfl, by decide +kernel, rfl, by decide +kernel, by decide +kernel⟩
abbrev s_law_range : Stmt := top 46
theorem sc_law_range : FnScope ["web", "rules", "claim", "kind", "one", "other", "low", "high", "names", "name", "ways", "at", "links", "back"] ["web", "rules", "claim"] (defScope s_law_range) := ⟨rfl, rfl, rfl, by decide +kernel, rfl, by decide +kernel, by decide +kernel⟩
abbrev s_law_narrowed : Stmt := top 47
theorem sc_law_narrowed : FnScope ["web", "rules", "claim", "low", "high", "kind", "one", "other", "corners", "links", "names", "name", "ways", "at", "k", "row", "put"] ["web", "rules", "claim", "low", "high"] (defScope s_law_narrowed) := ⟨rfl, rfl, rfl, by decide +kernel, rfl, by decide +kernel, by decide +kernel⟩
abbrev s_law_cases : Stmt := top 48
theorem sc_law_cases : FnScope ["ask", "claim", "denied", "web", "rules", "most", "first", "last", "low", "high", "ranges", "found", "begin", "end", "narrowed_v"] ["ask", "claim", "denied"] (defScope s_law_cases) := ⟨rfl, rfl, rfl, by decide +kernel, rfl, by decide +kernel, by decide +kernel⟩
abbrev s_law_same : Stmt := top 49
theorem sc_law_same : FnScope ["told", "due", "left", "one", "other", "k"] ["told", "due"] (defScope s_law_same) := ⟨rfl, rfl, rfl, by decide +kernel, rfl, by decide +kernel, by decide +kernel⟩
abbrev s_law_asked : Stmt := top 50
theorem sc_law_asked : FnScope ["ask", "claim", "seen", "kept", "denied"] ["ask", "claim", "seen"] (defScope s_law_asked) := ⟨rfl, rfl, rfl, by decide +kernel, rfl, by decide +kernel, by decide +kernel⟩
abbrev s_law_claims : Stmt := top 51
theorem sc_law_claims : FnScope ["pool", "web", "rules", "claim", "first", "last", "least", "most", "middle", "ends", "rows", "pair", "row"] ["pool", "web", "rules"] (defScope s_law_claims) := ⟨rfl, rfl, rfl, by decide +kernel, rfl, by decide +kernel, by decide +kernel⟩
abbrev s_law_turned : Stmt := top 52
theorem sc_law_turned : FnScope ["ask", "seen", "web", "rules", "most", "one", "other", "corners", "links", "near", "low", "high", "told", "left"] ["ask", "seen"] (defScope s_law_turned) := ⟨rfl, rfl, rfl, by decide +kernel, rfl, by decide +kernel, by decide +kernel⟩
abbrev s_law : Stmt := top 53
theorem sc_law : FnScope ["script", "pool", "seen", "webs", "table", "words", "spot", "web", "most", "rules", "claim"] ["script"] (defScope s_law) := ⟨rfl, rfl, rfl, by decide +kernel, rfl, by decide +kernel, by decide +kernel⟩
def clsBody : Stmt → List Stmt
  | .ClassDef (body := b) .. => b
  | _ => []
abbrev s_init : Stmt := (clsBody (top 4)).getD 0 (.Pass ⟨0, 0, 0, 0⟩)
theorem sc_init : FnScope ["self", "word"] ["self", "word"] (defScope s_init) := ⟨rfl, rfl, rfl, by decide +kernel, rfl, by decide +kernel, by decide +kernel⟩
/-- what the top has written -/
structure Txt (K : PySem.W.Frag) (mg : Str → Option Value) where
  n_abs : mg "abs" = none
  n_bool : mg "bool" = none
  n_int : mg "int" = none
  n_isinstance : mg "isinstance" = none
  n_len : mg "len" = none
  n_list : mg "list" = none
  n_max : mg "max" = none
  n_min : mg "min" = none
  n_range : mg "range" = none
  n_sorted : mg "sorted" = none
  n_str : mg "str" = none
  n_tuple : mg "tuple" = none
  d_turn_table : Df K mg "turn_table" s_turn_table ["web"]
  d_names_of : Df K mg "names_of" s_names_of ["web"]
  d_dart_list : Df K mg "dart_list" s_dart_list ["web"]
  d_link_list : Df K mg "link_list" s_link_list ["web"]
  d_link_of : Df K mg "link_of" s_link_of ["a", "b"]
  d_are_neighbours : Df K mg "are_neighbours" s_are_neighbours ["web", "a", "b"]
  d_dart_or_raise : Df K mg "dart_or_raise" s_dart_or_raise ["web", "a", "b"]
  d_corner_place : Df K mg "corner_place" s_corner_place ["web", "a", "b"]
  d_link_place : Df K mg "link_place" s_link_place ["web", "a", "b"]
  d_corner_rule : Df K mg "corner_rule" s_corner_rule ["web", "rules", "a", "b"]
  d_turned_bounds : Df K mg "turned_bounds" s_turned_bounds ["low", "high", "a", "b"]
  d_swing_rule : Df K mg "swing_rule" s_swing_rule ["web", "rules", "a", "b"]
  d_put_at : Df K mg "put_at" s_put_at ["row", "place", "thing"]
  d_corner_put : Df K mg "corner_put" s_corner_put ["web", "rules", "a", "b", "rule"]
  d_swing_put : Df K mg "swing_put" s_swing_put ["web", "rules", "a", "b", "low", "high"]
  d_rule_of : Df K mg "rule_of" s_rule_of ["web", "rules", "claim"]
  d_narrowed : Df K mg "narrowed" s_narrowed ["web", "rules", "claim", "low", "high"]
  d_claim_narrowed : Df K mg "claim_narrowed" s_claim_narrowed ["web", "rules", "claim"]
  d_ask_list : Df K mg "ask_list" s_ask_list ["ask", "rows"]
  d_case_list : Df K mg "case_list" s_case_list ["ask", "claim"]
  d_denial_list : Df K mg "denial_list" s_denial_list ["ask", "claim"]
  d_cases_of : Df K mg "cases_of" s_cases_of ["ask", "claim"]
  d_denial_cases : Df K mg "denial_cases" s_denial_cases ["ask", "claim"]
  d_law_pool : Df K mg "_law_pool" s_law_pool ["script"]
  d_law_take : Df K mg "_law_take" s_law_take ["pool", "many"]
  d_law_links : Df K mg "_law_links" s_law_links ["web"]
  d_law_faces : Df K mg "_law_faces" s_law_faces ["web"]
  d_law_sides : Df K mg "_law_sides" s_law_sides ["faces"]
  d_law_word : Df K mg "_law_word" s_law_word ["pool", "at"]
  d_law_named : Df K mg "_law_named" s_law_named ["pool", "table", "words"]
  d_law_grid : Df K mg "_law_grid" s_law_grid ["pool", "wide", "high", "most"]
  d_law_smoothed : Df K mg "_law_smoothed" s_law_smoothed ["pool", "table"]
  d_law_map : Df K mg "_law_map" s_law_map ["pool", "most"]
  d_law_free : Df K mg "_law_free" s_law_free ["web"]
  d_law_rules : Df K mg "_law_rules" s_law_rules ["pool", "web"]
  d_law_claim : Df K mg "_law_claim" s_law_claim ["pool", "web"]
  d_law_range : Df K mg "_law_range" s_law_range ["web", "rules", "claim"]
  d_law_narrowed : Df K mg "_law_narrowed" s_law_narrowed ["web", "rules", "claim", "low", "high"]
  d_law_cases : Df K mg "_law_cases" s_law_cases ["ask", "claim", "denied"]
  d_law_same : Df K mg "_law_same" s_law_same ["told", "due"]
  d_law_asked : Df K mg "_law_asked" s_law_asked ["ask", "claim", "seen"]
  d_law_claims : Df K mg "_law_claims" s_law_claims ["pool", "web", "rules"]
  d_law_turned : Df K mg "_law_turned" s_law_turned ["ask", "seen"]
  d_law : Df K mg "law" s_law ["script"]
  g_SWING_MOST : ∃ t, mg "SWING_MOST" = some (.int 30 t)
end K2
/-! the mirrors of law_k28_cases, written by gen2.py -/
namespace K28
open PySem PySem.Spec PyProof.Rows L2 HD G
/-- turn_table: 0 web, 1 name, 2 ways -/
def b_turn_table : Ms := (mRet (mDc (mSrc (m2 ixD (mVar 0) (mC (.int 0)))) (tgT [(tgN 1), (tgN 2)]) mYes (mVar 1) (mVar 2) [1, 2]))
def m_turn_table : Mf := fn 3 b_turn_table
/-- names_of: 0 web, 1 name, 2 _ -/
def b_names_of : Ms := (mRet (mN tupleD [(mLc (mSrc (m2 ixD (mVar 0) (mC (.int 0)))) (tgT [(tgN 1), (tgN 2)]) mYes (mVar 1) [1, 2])]))
def m_names_of : Mf := fn 3 b_names_of
/-- dart_list: 0 web, 1 name, 2 ways, 3 other -/
def b_dart_list : Ms := (mRet (mLc2 (mSrc (m2 ixD (mVar 0) (mC (.int 0)))) (tgT [(tgN 1), (tgN 2)]) mYes (mSrc (mN sortedD [(mVar 2)])) (tgN 3) mYes (mTup [(mVar 1), (mVar 3)]) [1, 2, 3] [3]))
def m_dart_list : Mf := fn 4 b_dart_list
/-- link_list: 0 web, 1 name, 2 other -/
def b_link_list : Ms := (mRet (mLc (mSrc (mCall m_dart_list [(mVar 0)])) (tgT [(tgN 1), (tgN 2)]) (mtst (m2 (lt2 false) (mVar 1) (mVar 2))) (mTup [(mVar 1), (mVar 2)]) [1, 2]))
def m_link_list : Mf := fn 3 b_link_list
/-- link_of: 0 a, 1 b -/
def b_link_of : Ms := (mRet (mTup [(mN (bestD PySem.W.minD) [(mVar 0), (mVar 1)]), (mN (bestD PySem.W.maxD) [(mVar 0), (mVar 1)])]))
def m_link_of : Mf := fn 2 b_link_of
/-- are_neighbours: 0 web, 1 a, 2 b -/
def b_are_neighbours : Ms := (mRet (m2 (inS false) (mVar 2) (mDGetX (mCall m_turn_table [(mVar 0)]) (mVar 1) (mTup []))))
def m_are_neighbours : Mf := fn 3 b_are_neighbours
/-- dart_or_raise: 0 web, 1 a, 2 b -/
def b_dart_or_raise : Ms := (mIf (mNot (mtst (mCall m_are_neighbours [(mVar 0), (mVar 1), (mVar 2)])))
    (fun _ => none)
    mNil)
def m_dart_or_raise : Mf := fn 3 b_dart_or_raise
/-- corner_place: 0 web, 1 a, 2 b -/
def b_corner_place : Ms := (mRet (mTup [(mIdx (mCall m_names_of [(mVar 0)]) (mVar 1)), (mIdx (mDGet (mCall m_turn_table [(mVar 0)]) (mVar 1)) (mVar 2))]))
def m_corner_place : Mf := fn 3 b_corner_place
/-- link_place: 0 web, 1 a, 2 b -/
def b_link_place : Ms := (mRet (mIdx (mCall m_link_list [(mVar 0)]) (mCall m_link_of [(mVar 1), (mVar 2)])))
def m_link_place : Mf := fn 3 b_link_place
/-- corner_rule: 0 web, 1 rules, 2 a, 3 b, 4 place, 5 corner -/
def b_corner_rule : Ms := (mSeq (mExp (mCall m_dart_or_raise [(mVar 0), (mVar 2), (mVar 3)]))
  (mSeq (mAsg (tgT [(tgN 4), (tgN 5)]) (mCall m_corner_place [(mVar 0), (mVar 2), (mVar 3)]))
  (mRet (m2 ixD (m2 ixD (m2 ixD (mVar 1) (mC (.int 0))) (mVar 4)) (mVar 5)))))
def m_corner_rule : Mf := fn 6 b_corner_rule
/-- turned_bounds: 0 low, 1 high, 2 a, 3 b -/
def b_turned_bounds : Ms := (mRet (mIfE (mtst (m2 (lt2 false) (mVar 2) (mVar 3))) (mTup [(mVar 0), (mVar 1)]) (mTup [(m1 negD (mVar 1)), (m1 negD (mVar 0))])))
def m_turned_bounds : Mf := fn 4 b_turned_bounds
/-- swing_rule: 0 web, 1 rules, 2 a, 3 b, 4 low, 5 high, 6 _ -/
def b_swing_rule : Ms := (mSeq (mExp (mCall m_dart_or_raise [(mVar 0), (mVar 2), (mVar 3)]))
  (mSeq (mAsg (tgT [(tgN 4), (tgN 5), (tgN 6)]) (m2 ixD (m2 ixD (mVar 1) (mC (.int 1))) (mCall m_link_place [(mVar 0), (mVar 2), (mVar 3)])))
  (mRet (mCall m_turned_bounds [(mVar 4), (mVar 5), (mVar 2), (mVar 3)]))))
def m_swing_rule : Mf := fn 7 b_swing_rule
/-- put_at: 0 row, 1 place, 2 thing -/
def b_put_at : Ms := (mRet (m2 addD (m2 addD (mSl (mVar 0) none (some (mVar 1))) (mTup [(mVar 2)])) (mSl (mVar 0) (some (m2 addD (mVar 1) (mC (.int 1)))) none)))
def m_put_at : Mf := fn 3 b_put_at
/-- corner_put: 0 web, 1 rules, 2 a, 3 b, 4 rule, 5 place, 6 corner -/
def b_corner_put : Ms := (mSeq (mAsg (tgT [(tgN 5), (tgN 6)]) (mCall m_corner_place [(mVar 0), (mVar 2), (mVar 3)]))
  (mRet (mTup [(mCall m_put_at [(m2 ixD (mVar 1) (mC (.int 0))), (mVar 5), (mCall m_put_at [(m2 ixD (m2 ixD (mVar 1) (mC (.int 0))) (mVar 5)), (mVar 6), (mVar 4)])]), (m2 ixD (mVar 1) (mC (.int 1)))])))
def m_corner_put : Mf := fn 7 b_corner_put
/-- swing_put: 0 web, 1 rules, 2 a, 3 b, 4 low, 5 high, 6 place, 7 rule -/
def b_swing_put : Ms := (mSeq (mSet 6 (mCall m_link_place [(mVar 0), (mVar 2), (mVar 3)]))
  (mSeq (mSet 7 (m2 addD (mCall m_turned_bounds [(mVar 4), (mVar 5), (mVar 2), (mVar 3)]) (mTup [(m2 ixD (m2 ixD (m2 ixD (mVar 1) (mC (.int 1))) (mVar 6)) (mC (.int 2)))])))
  (mRet (mTup [(m2 ixD (mVar 1) (mC (.int 0))), (mCall m_put_at [(m2 ixD (mVar 1) (mC (.int 1))), (mVar 6), (mVar 7)])]))))
def m_swing_put : Mf := fn 8 b_swing_put
/-- rule_of: 0 web, 1 rules, 2 claim, 3 kind, 4 a, 5 b, 6 _ -/
def b_rule_of : Ms := (mSeq (mAsg (tgT [(tgN 3), (tgN 4), (tgN 5), (tgN 6), (tgN 6)]) (mVar 2))
  (mRet (mIfE (mtst (m2 (eqD false) (mVar 3) (mC (.str "corner")))) (mCall m_corner_rule [(mVar 0), (mVar 1), (mVar 4), (mVar 5)]) (mCall m_swing_rule [(mVar 0), (mVar 1), (mVar 4), (mVar 5)]))))
def m_rule_of : Mf := fn 7 b_rule_of
/-- narrowed: 0 web, 1 rules, 2 claim, 3 low, 4 high, 5 kind, 6 a, 7 b, 8 _, 9 least, 10 most -/
def b_narrowed : Ms := (mSeq (mAsg (tgT [(tgN 5), (tgN 6), (tgN 7), (tgN 8), (tgN 8)]) (mVar 2))
  (mSeq (mAsg (tgT [(tgN 9), (tgN 10)]) (mCall m_rule_of [(mVar 0), (mVar 1), (mVar 2)]))
  (mSeq (mPar 3 4 [(mN (bestD PySem.W.maxD) [(mVar 3), (mVar 9)]), (mN (bestD PySem.W.minD) [(mVar 4), (mVar 10)])])
  (mSeq (mIf (mtst (m2 gtD (mVar 3) (mVar 4)))
    (mRet (mC .none))
    mNil)
  (mSeq (mIf (mtst (m2 (eqD false) (mVar 5) (mC (.str "corner"))))
    (mRet (mCall m_corner_put [(mVar 0), (mVar 1), (mVar 6), (mVar 7), (mTup [(mVar 3), (mVar 4)])]))
    mNil)
  (mRet (mCall m_swing_put [(mVar 0), (mVar 1), (mVar 6), (mVar 7), (mVar 3), (mVar 4)])))))))
def m_narrowed : Mf := fn 11 b_narrowed
/-- claim_narrowed: 0 web, 1 rules, 2 claim -/
def b_claim_narrowed : Ms := (mRet (mCall m_narrowed [(mVar 0), (mVar 1), (mVar 2), (m2 ixD (mVar 2) (mC (.int 3))), (m2 ixD (mVar 2) (mC (.int 4)))]))
def m_claim_narrowed : Mf := fn 3 b_claim_narrowed
/-- ask_list: 0 ask, 1 rows, 2 rules -/
def b_ask_list : Ms := (mRet (mLc (mSrc (mVar 1)) (tgN 2) (mtst (mIsN true (mVar 2))) (mTup [(m2 ixD (mVar 0) (mC (.int 0))), (mVar 2), (m2 ixD (mVar 0) (mC (.int 2)))]) [2]))
def m_ask_list : Mf := fn 3 b_ask_list
/-- case_list: 0 ask, 1 claim -/
def b_case_list : Ms := (mRet (mCall m_ask_list [(mVar 0), (mLst [(mCall m_claim_narrowed [(m2 ixD (mVar 0) (mC (.int 0))), (m2 ixD (mVar 0) (mC (.int 1))), (mVar 1)])])]))
def m_case_list : Mf := fn 2 b_case_list
/-- denial_list: 0 ask, 1 claim, 2 below -/
def b_denial_list : Ms := (mSeq (mSet 2 (mCall m_narrowed [(m2 ixD (mVar 0) (mC (.int 0))), (m2 ixD (mVar 0) (mC (.int 1))), (mVar 1), (m1 negD (mC (.int 30))), (m2 subD (m2 ixD (mVar 1) (mC (.int 3))) (mC (.int 1)))]))
  (mRet (mCall m_ask_list [(mVar 0), (mLst [(mVar 2), (mCall m_narrowed [(m2 ixD (mVar 0) (mC (.int 0))), (m2 ixD (mVar 0) (mC (.int 1))), (mVar 1), (m2 addD (m2 ixD (mVar 1) (mC (.int 4))) (mC (.int 1))), (mC (.int 30))])])])))
def m_denial_list : Mf := fn 3 b_denial_list
/-- cases_of: 0 ask, 1 claim -/
def b_cases_of : Ms := (mRet (mN tupleD [(mCall m_case_list [(mVar 0), (mVar 1)])]))
def m_cases_of : Mf := fn 2 b_cases_of
/-- denial_cases: 0 ask, 1 claim -/
def b_denial_cases : Ms := (mRet (mN tupleD [(mCall m_denial_list [(mVar 0), (mVar 1)])]))
def m_denial_cases : Mf := fn 2 b_denial_cases
/-- one cell of the script goes into the pool -/
def poolStep (q : Int × List Int) (c : Int) : Int × List Int :=
  ((q.1 * 27751 + (if c < 0 then -c else c) % 2 ^ 2000 % 2147483543 + 5 * (if c < 0 then 1 else 0) + 3) % 2147483543, if 10 ^ 18 ≤ (if c < 0 then -c else c) % 2 ^ 2000 then q.2 ++ [(if c < 0 then -c else c) % 2 ^ 2000] else q.2)
def poolOf (ns : List Int) : Int × List Int := ns.foldl poolStep (62311, [])
/-- law's slots behind its first line -/
def law0 (n : Nat) (ns : List Int) : G.Env := [.non, .own (.pool [.int (poolOf ns).1] ((poolOf ns).2.map .int) [])] ++ List.replicate n .non
/-- a number below many out of the pool -/
def takeP (st : Int) (gr : List PyData) (many : Int) : Option (Int × Int × List PyData) := match gr.getLast? with
  | none => some ((((st * 42797 + 829) % 2147483543) / 128 * 7793 + (st * 42797 + 829) % 2147483543) % 1000000009 % many, (st * 42797 + 829) % 2147483543, [])
  | some (.int size) => some (size % many, st, if many ≤ size then gr.dropLast ++ [.int (size / many)] else gr.dropLast)
  | _ => none
def m_law_take : Mf := fun ρ0 => match ρ0 with
  | [.par k (.pool [.int st] gr []), .dat (.int many)] => if 0 < many ∧ many.natAbs.log2 < 9000 ∧ gr.length < LIM ∧ 0 ≤ st ∧ st < 2147483648 then (takeP st gr many).map fun r => (.dt (.int r.1), [.par k (.pool [.int r.2.1] r.2.2 []), .dat (.int many)]) else none
  | _ => none

/-- _law_links: 0 web, 1 links, 2 name, 3 ways, 4 other -/
def b_law_links : Ms := (mSeq (mSet 1 (mLst []))
  (mSeq (mFor (mSrc (m2 ixD (mVar 0) (mC (.int 0)))) (tgT [(tgN 2), (tgN 3)])
    (mSet 1 (m2 addD (mVar 1) (mLc (mSrc (mN sortedD [(mVar 3)])) (tgN 4) (mtst (m2 (lt2 false) (mVar 2) (mVar 4))) (mTup [(mVar 2), (mVar 4)]) [4]))))
  (mRet (mVar 1))))
def m_law_links : Mf := fn 5 b_law_links
/-- _law_faces: 0 web, 1 table, 2 name, 3 ways, 4 done, 5 faces, 6 other, 7 dart, 8 walk, 9 row, 10 at -/
def b_law_faces : Ms := (mSeq (mSetO 1 (mDNew (.dK [])))
  (mSeq (mFor (mSrc (m2 ixD (mVar 0) (mC (.int 0)))) (tgT [(tgN 2), (tgN 3)])
    (mPut 1 (mVar 2) (mVar 3)))
  (mSeq (mSetO 4 (mDNew (.dN [])))
  (mSeq (mSetO 5 (mLst []))
  (mSeq (mFor (mSrc (m2 ixD (mVar 0) (mC (.int 0)))) (tgT [(tgN 2), (tgN 3)])
    (mFor (mSrc (mN sortedD [(mVar 3)])) (tgN 6)
    (mSeq (mSet 7 (mTup [(mVar 2), (mVar 6)]))
  (mSeq (mSetO 8 (mLst []))
  (mSeq (mWhile (mtst (mDIn true (mVar 7) (mVar 4)))
    (mSeq (mPut 4 (mVar 7) (mC (.bool true)))
  (mSeq (mExp (mMeth "list" obAppend 8 [(mVar 7)]))
  (mSeq (mSet 9 (mDGet (mVar 1) (m2 ixD (mVar 7) (mC (.int 1)))))
  (mSet 7 (mTup [(m2 ixD (mVar 7) (mC (.int 1))), (m2 ixD (mVar 9) (m2 modD (mN intD [(m2 addD (mIdx (mVar 9) (m2 ixD (mVar 7) (mC (.int 0)))) (mC (.int 1)))]) (mN lenD [(mVar 9)])))]))))) FUEL)
  (mIf (mtst (m2 gtD (mN lenD [(mVar 8)]) (mC (.int 0))))
    (mSeq (mSet 10 (mIdx (mVar 8) (mN (bestD PySem.W.minD) [(mVar 8)])))
  (mExp (mMeth "list" obAppend 5 [(mN tupleD [(m2 addD (mSl (mVar 8) (some (mVar 10)) none) (mSl (mVar 8) none (some (mVar 10))))])])))
    mNil))))))
  (mRet (mN sortedD [(mVar 5)])))))))
def m_law_faces : Mf := fn 11 b_law_faces
/-- _law_sides: 0 faces, 1 sides, 2 k, 3 dart -/
def b_law_sides : Ms := (mSeq (mSetO 1 (mDNew (.dN [])))
  (mSeq (mFor (mRng1 [(mN lenD [(mVar 0)])]) (tgN 2)
    (mFor (mSrc (m2 ixD (mVar 0) (mVar 2))) (tgN 3)
    (mPut 1 (mVar 3) (mVar 2))))
  (mRetO (mVar 1))))
def m_law_sides : Mf := fn 4 b_law_sides
/-- _law_word: 0 pool, 1 at, 2 letters, 3 word -/
def b_law_word : Ms := (mSeq (mSet 2 (mC (.str "abcdefghijklmnopqrstuvwxyz")))
  (mSeq (mSet 3 (m2 ixD (mVar 2) (mCall m_law_take [(mVar 0), (mC (.int 26))])))
  (mSeq (mIf (mtst (m2 (eqD false) (mCall m_law_take [(mVar 0), (mC (.int 3))]) (mC (.int 0))))
    (mRet (m2 addD (m2 addD (m2 addD (mVar 3) (m2 ixD (mVar 2) (mCall m_law_take [(mVar 0), (mC (.int 26))]))) (mN strD [(mVar 1)])) (mC (.str "x"))))
    mNil)
  (mRet (m2 addD (mVar 3) (mN strD [(mVar 1)]))))))
def m_law_word : Mf := fn 4 b_law_word
/-- _law_named: 0 pool, 1 table, 2 words, 3 ways, 4 spot, 5 row, 6 other, 7 at, 8 web, 9 name, 10 faces -/
def b_law_named : Ms := (mSeq (mSetO 3 (mDNew (.dK [])))
  (mSeq (mFor (mSrc (mN sortedD [(mN listD [(mVar 1)])])) (tgN 4)
    (mSeq (mSetO 5 (mLc (mSrc (mDGet (mVar 1) (mVar 4))) (tgN 6) mYes (mDGet (mVar 2) (mVar 6)) [6]))
  (mFrz 5 (mSeq (mSet 7 (mIdx (mVar 5) (mN (bestD PySem.W.minD) [(mVar 5)])))
  (mPut 3 (mDGet (mVar 2) (mVar 4)) (mN tupleD [(m2 addD (mSl (mVar 5) (some (mVar 7)) none) (mSl (mVar 5) none (some (mVar 7))))]))))))
  (mSeq (mSet 8 (mTup [(mN tupleD [(mLc (mSrc (mN sortedD [(mN listD [(mVar 3)])])) (tgN 9) mYes (mTup [(mVar 9), (mDGet (mVar 3) (mVar 9))]) [9])]), (mTup [(mC (.str "")), (mC (.str ""))])]))
  (mSeq (mSet 10 (mCall m_law_faces [(mVar 8)]))
  (mRet (mTup [(m2 ixD (mVar 8) (mC (.int 0))), (m2 ixD (m2 ixD (mVar 10) (mCall m_law_take [(mVar 0), (mN lenD [(mVar 10)])])) (mC (.int 0)))]))))))
def m_law_named : Mf := fn 11 b_law_named
/-- _law_grid: 0 pool, 1 wide, 2 high, 3 most, 4 spots, 5 links, 6 lap, 7 x, 8 y, 9 dx, 10 dy, 11 other, 12 table, 13 near -/
def b_law_grid : Ms := (mSeq (mSetO 4 (mLst [(mTup [(mCall m_law_take [(mVar 0), (mVar 1)]), (mCall m_law_take [(mVar 0), (mVar 2)])])]))
  (mSeq (mSetO 5 (mLst []))
  (mSeq (mFor (mRng1 [(m2 mulD (mC (.int 6)) (mVar 3))]) (tgN 6)
    (mSeq (mAsg (tgT [(tgN 7), (tgN 8)]) (m2 ixD (mVar 4) (mCall m_law_take [(mVar 0), (mN lenD [(mVar 4)])])))
  (mSeq (mAsg (tgT [(tgN 9), (tgN 10)]) (m2 ixD (mLst [(mTup [(mC (.int 0)), (mC (.int 1))]), (mTup [(mC (.int 1)), (mC (.int 0))]), (mTup [(mC (.int 0)), (m1 negD (mC (.int 1)))]), (mTup [(m1 negD (mC (.int 1))), (mC (.int 0))])]) (mCall m_law_take [(mVar 0), (mC (.int 4))])))
  (mSeq (mSet 11 (mTup [(m2 addD (mVar 7) (mVar 9)), (m2 addD (mVar 8) (mVar 10))]))
  (mIf (mAnd (mtst (mChain leD (lt2 false) (mC (.int 0)) (m2 ixD (mVar 11) (mC (.int 0))) (mVar 1))) (mAnd (mtst (mChain leD (lt2 false) (mC (.int 0)) (m2 ixD (mVar 11) (mC (.int 1))) (mVar 2))) (mOr (mtst (m2 (inS false) (mVar 11) (mVar 4))) (mtst (m2 (lt2 false) (mN lenD [(mVar 4)]) (mVar 3))))))
    (mSeq (mIf (mtst (m2 (inS true) (mVar 11) (mVar 4)))
    (mExp (mMeth "list" obAppend 4 [(mVar 11)]))
    mNil)
  (mIf (mtst (m2 (inS true) (mTup [(mTup [(mVar 7), (mVar 8)]), (mVar 11)]) (mVar 5)))
    (mSeq (mExp (mMeth "list" obAppend 5 [(mTup [(mTup [(mVar 7), (mVar 8)]), (mVar 11)])]))
  (mExp (mMeth "list" obAppend 5 [(mTup [(mVar 11), (mTup [(mVar 7), (mVar 8)])])])))
    mNil))
    mNil)))))
  (mSeq (mIf (mtst (m2 (lt2 false) (mN lenD [(mVar 4)]) (mC (.int 2))))
    (mSeq (mSetO 4 (mLst [(mTup [(mC (.int 0)), (mC (.int 0))]), (mTup [(mC (.int 1)), (mC (.int 0))])]))
  (mSetO 5 (mLst [(mTup [(mTup [(mC (.int 0)), (mC (.int 0))]), (mTup [(mC (.int 1)), (mC (.int 0))])]), (mTup [(mTup [(mC (.int 1)), (mC (.int 0))]), (mTup [(mC (.int 0)), (mC (.int 0))])])])))
    mNil)
  (mSeq (mSetO 12 (mDNew (.dN [])))
  (mSeq (mFrz 4 (mFor (mSrc (mVar 4)) (tgT [(tgN 7), (tgN 8)])
    (mSeq (mSet 13 (mLst [(mTup [(mVar 7), (m2 addD (mVar 8) (mC (.int 1)))]), (mTup [(m2 addD (mVar 7) (mC (.int 1))), (mVar 8)]), (mTup [(mVar 7), (m2 subD (mVar 8) (mC (.int 1)))]), (mTup [(m2 subD (mVar 7) (mC (.int 1))), (mVar 8)])]))
  (mPut 12 (mTup [(mVar 7), (mVar 8)]) (mLc (mSrc (mVar 13)) (tgN 11) (mtst (m2 (inS false) (mTup [(mTup [(mVar 7), (mVar 8)]), (mVar 11)]) (mVar 5))) (mVar 11) [11])))))
  (mRetO (mVar 12))))))))
def m_law_grid : Mf := fn 14 b_law_grid
/-- _law_smoothed: 0 pool, 1 table, 2 spot, 3 row, 4 one, 5 other, 6 near -/
def b_law_smoothed : Ms := (mSeq (mFor (mSrc (mN sortedD [(mN listD [(mVar 1)])])) (tgN 2)
    (mSeq (mSet 3 (mDGet (mVar 1) (mVar 2)))
  (mIf (mAnd (mtst (m2 (eqD false) (mN lenD [(mVar 3)]) (mC (.int 2)))) (mAnd (mtst (m2 (inS true) (m2 ixD (mVar 3) (mC (.int 1))) (mDGet (mVar 1) (m2 ixD (mVar 3) (mC (.int 0)))))) (mtst (m2 (eqD false) (mCall m_law_take [(mVar 0), (mC (.int 2))]) (mC (.int 0))))))
    (mSeq (mAsg (tgT [(tgN 4), (tgN 5)]) (mVar 3))
  (mSeq (mPut 1 (mVar 4) (mLc (mSrc (mDGet (mVar 1) (mVar 4))) (tgN 6) mYes (mIfE (mtst (m2 (eqD false) (mVar 6) (mVar 2))) (mVar 5) (mVar 6)) [6]))
  (mSeq (mPut 1 (mVar 5) (mLc (mSrc (mDGet (mVar 1) (mVar 5))) (tgN 6) mYes (mIfE (mtst (m2 (eqD false) (mVar 6) (mVar 2))) (mVar 4) (mVar 6)) [6]))
  (mExp (mMeth "dict" obDPop 1 [(mVar 2)])))))
    mNil)))
  (mRetO (mVar 1)))
def m_law_smoothed : Mf := fn 7 b_law_smoothed
/-- _law_map: 0 pool, 1 most, 2 table, 3 words, 4 spot -/
def b_law_map : Ms := (mSeq (mSet 2 (mCallT m_law_smoothed (mVar 0) (mCall m_law_grid [(mVar 0), (mC (.int 4)), (mC (.int 3)), (mVar 1)])))
  (mSeq (mSetO 3 (mDNew (.dN [])))
  (mSeq (mFor (mSrc (mN sortedD [(mN listD [(mVar 2)])])) (tgN 4)
    (mPut 3 (mVar 4) (mCall m_law_word [(mVar 0), (mN lenD [(mVar 3)])])))
  (mRet (mCall m_law_named [(mVar 0), (mVar 2), (mVar 3)])))))
def m_law_map : Mf := fn 5 b_law_map
/-- _law_free: 0 web, 1 corners, 2 name, 3 ways -/
def b_law_free : Ms := (mSeq (mSetO 1 (mLst []))
  (mSeq (mFor (mSrc (m2 ixD (mVar 0) (mC (.int 0)))) (tgT [(tgN 2), (tgN 3)])
    (mExp (mMeth "list" obAppend 1 [(mN tupleD [(m2 mulD (mLst [(mTup [(mC (.int 1)), (mC (.int 4))])]) (mN lenD [(mVar 3)]))])])))
  (mRet (mTup [(mN tupleD [(mVar 1)]), (mN tupleD [(m2 mulD (mLst [(mTup [(m1 negD (mC (.int 30))), (mC (.int 30)), (mC (.int 1))])]) (mN lenD [(mCall m_law_links [(mVar 0)])]))])]))))
def m_law_free : Mf := fn 4 b_law_free
/-- _law_rules: 0 pool, 1 web, 2 corners, 3 tight, 4 name, 5 ways, 6 row, 7 other, 8 low, 9 high, 10 links, 11 most, 12 link -/
def b_law_rules : Ms := (mSeq (mSetO 2 (mLst []))
  (mSeq (mSet 3 (mCall m_law_take [(mVar 0), (mC (.int 4))]))
  (mSeq (mFor (mSrc (m2 ixD (mVar 1) (mC (.int 0)))) (tgT [(tgN 4), (tgN 5)])
    (mSeq (mSetO 6 (mLst []))
  (mSeq (mFor (mSrc (mVar 5)) (tgN 7)
    (mSeq (mSet 8 (mC (.int 1)))
  (mSeq (mSet 9 (mC (.int 4)))
  (mSeq (mIf (mtst (m2 (lt2 false) (mCall m_law_take [(mVar 0), (mC (.int 8))]) (mVar 3)))
    (mSeq (mSet 8 (m2 ixD (mLst [(mC (.int 1)), (mC (.int 1)), (mC (.int 2)), (mC (.int 1)), (mC (.int 3))]) (mCall m_law_take [(mVar 0), (mC (.int 5))])))
  (mSet 9 (m2 addD (mVar 8) (mCall m_law_take [(mVar 0), (m2 subD (mC (.int 5)) (mVar 8))]))))
    mNil)
  (mExp (mMeth "list" obAppend 6 [(mTup [(mVar 8), (mVar 9)])]))))))
  (mExp (mMeth "list" obAppend 2 [(mN tupleD [(mVar 6)])])))))
  (mSeq (mSetO 10 (mLst []))
  (mSeq (mSet 11 (m2 ixD (mLst [(mC (.int 1)), (mC (.int 3)), (mC (.int 9))]) (mCall m_law_take [(mVar 0), (mC (.int 3))])))
  (mSeq (mFor (mSrc (mCall m_law_links [(mVar 1)])) (tgN 12)
    (mSeq (mSet 8 (m1 negD (mC (.int 30))))
  (mSeq (mSet 9 (mC (.int 30)))
  (mSeq (mIf (mtst (m2 (lt2 false) (mCall m_law_take [(mVar 0), (mC (.int 8))]) (mVar 3)))
    (mSeq (mSet 8 (m2 subD (mCall m_law_take [(mVar 0), (mC (.int 4))]) (mC (.int 2))))
  (mSet 9 (m2 addD (mVar 8) (mCall m_law_take [(mVar 0), (mC (.int 3))]))))
    mNil)
  (mExp (mMeth "list" obAppend 10 [(mTup [(mVar 8), (mVar 9), (m2 addD (mC (.int 1)) (mCall m_law_take [(mVar 0), (mVar 11)]))])]))))))
  (mRet (mTup [(mN tupleD [(mVar 2)]), (mN tupleD [(mVar 10)])]))))))))
def m_law_rules : Mf := fn 13 b_law_rules
/-- _law_claim: 0 pool, 1 web, 2 sides, 3 darts, 4 one, 5 other, 6 low, 7 high -/
def b_law_claim : Ms := (mSeq (mSet 2 (mCall m_law_sides [(mCall m_law_faces [(mVar 1)])]))
  (mSeq (mSet 3 (mN sortedD [(mN listD [(mVar 2)])]))
  (mSeq (mAsg (tgT [(tgN 4), (tgN 5)]) (m2 ixD (mVar 3) (mCall m_law_take [(mVar 0), (mN lenD [(mVar 3)])])))
  (mSeq (mIf (mtst (m2 (eqD false) (mCall m_law_take [(mVar 0), (mC (.int 2))]) (mC (.int 0))))
    (mSeq (mSet 6 (m2 addD (mC (.int 1)) (mCall m_law_take [(mVar 0), (mC (.int 4))])))
  (mRet (mTup [(mC (.str "corner")), (mVar 4), (mVar 5), (mVar 6), (m2 addD (mVar 6) (mCall m_law_take [(mVar 0), (m2 subD (mC (.int 5)) (mVar 6))]))])))
    mNil)
  (mSeq (mSet 6 (m2 ixD (mLst [(mC (.int 0)), (mC (.int 0)), (mC (.int 1)), (m1 negD (mC (.int 1))), (m1 negD (mC (.int 30))), (mC (.int 30)), (m2 subD (mCall m_law_take [(mVar 0), (mC (.int 61))]) (mC (.int 30)))]) (mCall m_law_take [(mVar 0), (mC (.int 7))])))
  (mSeq (mSet 7 (m2 ixD (mLst [(mVar 6), (mVar 6), (mC (.int 30)), (m2 addD (mVar 6) (mCall m_law_take [(mVar 0), (m2 subD (mC (.int 31)) (mVar 6))]))]) (mCall m_law_take [(mVar 0), (mC (.int 4))])))
  (mRet (mTup [(mC (.str "swing")), (mVar 4), (mVar 5), (mVar 6), (mVar 7)]))))))))
def m_law_claim : Mf := fn 8 b_law_claim
/-- _law_range: 0 web, 1 rules, 2 claim, 3 kind, 4 one, 5 other, 6 low, 7 high, 8 names, 9 name, 10 ways, 11 at, 12 links, 13 back -/
def b_law_range : Ms := (mSeq (mAsg (tgT [(tgN 3), (tgN 4), (tgN 5), (tgN 6), (tgN 7)]) (mVar 2))
  (mSeq (mIf (mtst (m2 (eqD false) (mVar 3) (mC (.str "corner"))))
    (mSeq (mSetO 8 (mLc (mSrc (m2 ixD (mVar 0) (mC (.int 0)))) (tgT [(tgN 9), (tgN 10)]) mYes (mVar 9) [9, 10]))
  (mFrz 8 (mSeq (mSet 11 (mIdx (mVar 8) (mVar 4)))
  (mRet (m2 ixD (m2 ixD (m2 ixD (mVar 1) (mC (.int 0))) (mVar 11)) (mIdx (m2 ixD (m2 ixD (m2 ixD (mVar 0) (mC (.int 0))) (mVar 11)) (mC (.int 1))) (mVar 5)))))))
    mNil)
  (mSeq (mSet 12 (mCall m_law_links [(mVar 0)]))
  (mSeq (mIf (mtst (m2 (lt2 false) (mVar 4) (mVar 5)))
    (mRet (mSl (m2 ixD (m2 ixD (mVar 1) (mC (.int 1))) (mIdx (mVar 12) (mTup [(mVar 4), (mVar 5)]))) none (some (mC (.int 2)))))
    mNil)
  (mSeq (mSet 13 (m2 ixD (m2 ixD (mVar 1) (mC (.int 1))) (mIdx (mVar 12) (mTup [(mVar 5), (mVar 4)]))))
  (mRet (mTup [(m2 subD (mC (.int 0)) (m2 ixD (mVar 13) (mC (.int 1)))), (m2 subD (mC (.int 0)) (m2 ixD (mVar 13) (mC (.int 0))))])))))))
def m_law_range : Mf := fn 14 b_law_range
/-- _law_narrowed: 0 web, 1 rules, 2 claim, 3 low, 4 high, 5 kind, 6 one, 7 other, 8 corners, 9 links, 10 names, 11 name, 12 ways, 13 at, 14 k, 15 row, 16 put -/
def b_law_narrowed : Ms := (mSeq (mIf (mtst (m2 gtD (mVar 3) (mVar 4)))
    (mRet (mC .none))
    mNil)
  (mSeq (mAsg (tgT [(tgN 5), (tgN 6), (tgN 7)]) (mSl (mVar 2) none (some (mC (.int 3)))))
  (mSeq (mAsg (tgT [(tgN 8), (tgN 9)]) (mVar 1))
  (mSeq (mIf (mtst (m2 (eqD false) (mVar 5) (mC (.str "corner"))))
    (mSeq (mSetO 10 (mLc (mSrc (m2 ixD (mVar 0) (mC (.int 0)))) (tgT [(tgN 11), (tgN 12)]) mYes (mVar 11) [11, 12]))
  (mFrz 10 (mSeq (mSet 13 (mIdx (mVar 10) (mVar 6)))
  (mSeq (mSet 14 (mIdx (m2 ixD (m2 ixD (m2 ixD (mVar 0) (mC (.int 0))) (mVar 13)) (mC (.int 1))) (mVar 7)))
  (mSeq (mSet 15 (m2 addD (m2 addD (mSl (m2 ixD (mVar 8) (mVar 13)) none (some (mVar 14))) (mTup [(mTup [(mVar 3), (mVar 4)])])) (mSl (m2 ixD (mVar 8) (mVar 13)) (some (m2 addD (mVar 14) (mC (.int 1)))) none)))
  (mRet (mTup [(m2 addD (m2 addD (mSl (mVar 8) none (some (mVar 13))) (mTup [(mVar 15)])) (mSl (mVar 8) (some (m2 addD (mVar 13) (mC (.int 1)))) none)), (mVar 9)])))))))
    mNil)
  (mSeq (mSet 13 (mIdx (mCall m_law_links [(mVar 0)]) (mTup [(mN (bestD PySem.W.minD) [(mVar 6), (mVar 7)]), (mN (bestD PySem.W.maxD) [(mVar 6), (mVar 7)])])))
  (mSeq (mSet 16 (mTup [(mVar 3), (mVar 4), (m2 ixD (m2 ixD (mVar 9) (mVar 13)) (mC (.int 2)))]))
  (mSeq (mIf (mtst (m2 gtD (mVar 6) (mVar 7)))
    (mSet 16 (mTup [(m2 subD (mC (.int 0)) (mVar 4)), (m2 subD (mC (.int 0)) (mVar 3)), (m2 ixD (m2 ixD (mVar 9) (mVar 13)) (mC (.int 2)))]))
    mNil)
  (mRet (mTup [(mVar 8), (m2 addD (m2 addD (mSl (mVar 9) none (some (mVar 13))) (mTup [(mVar 16)])) (mSl (mVar 9) (some (m2 addD (mVar 13) (mC (.int 1)))) none))])))))))))
def m_law_narrowed : Mf := fn 17 b_law_narrowed
/-- _law_cases: 0 ask, 1 claim, 2 denied, 3 web, 4 rules, 5 most, 6 first, 7 last, 8 low, 9 high, 10 ranges, 11 found, 12 begin, 13 end, 14 narrowed_v -/
def b_law_cases : Ms := (mSeq (mAsg (tgT [(tgN 3), (tgN 4), (tgN 5)]) (mVar 0))
  (mSeq (mAsg (tgT [(tgN 6), (tgN 7)]) (mCall m_law_range [(mVar 3), (mVar 4), (mVar 1)]))
  (mSeq (mAsg (tgT [(tgN 8), (tgN 9)]) (mSl (mVar 1) (some (mC (.int 3))) none))
  (mSeq (mSet 10 (mLst [(mTup [(mN (bestD PySem.W.maxD) [(mVar 6), (mVar 8)]), (mN (bestD PySem.W.minD) [(mVar 7), (mVar 9)])])]))
  (mSeq (mIf (mtst (mVar 2))
    (mSet 10 (mLst [(mTup [(mVar 6), (mN (bestD PySem.W.minD) [(mVar 7), (m2 subD (mVar 8) (mC (.int 1)))])]), (mTup [(mN (bestD PySem.W.maxD) [(mVar 6), (m2 addD (mVar 9) (mC (.int 1)))]), (mVar 7)])]))
    mNil)
  (mSeq (mSetO 11 (mLst []))
  (mSeq (mFor (mSrc (mVar 10)) (tgT [(tgN 12), (tgN 13)])
    (mSeq (mSet 14 (mCall m_law_narrowed [(mVar 3), (mVar 4), (mVar 1), (mVar 12), (mVar 13)]))
  (mIf (mtst (mIsN true (mVar 14)))
    (mExp (mMeth "list" obAppend 11 [(mTup [(mVar 3), (mVar 14), (mVar 5)])]))
    mNil)))
  (mRet (mN tupleD [(mVar 11)])))))))))
def m_law_cases : Mf := fn 15 b_law_cases
/-- _law_same: 0 told, 1 due, 2 left, 3 one, 4 other, 5 k -/
def b_law_same : Ms := (mSeq (mSetO 2 (mLst [(mTup [(mVar 0), (mVar 1)])]))
  (mSeq (mWhile (mtst (m2 gtD (mN lenD [(mVar 2)]) (mC (.int 0))))
    (mSeq (mAsg (tgT [(tgN 3), (tgN 4)]) (mMeth "list" obPop 2 []))
  (mIf (mtst (mIsi2 .tup (mVar 4)))
    (mSeq (mIf (mOr (mNot (mtst (mIsi2 .tup (mVar 3)))) (mtst (m2 (eqD true) (mN lenD [(mVar 3)]) (mN lenD [(mVar 4)]))))
    (mRet (mC (.bool false)))
    mNil)
  (mFor (mRng1 [(mN lenD [(mVar 4)])]) (tgN 5)
    (mExp (mMeth "list" obAppend 2 [(mTup [(m2 ixD (mVar 3) (mVar 5)), (m2 ixD (mVar 4) (mVar 5))])]))))
    (mIf (mtst (mIsN false (mVar 4)))
    (mIf (mtst (mIsN true (mVar 3)))
    (mRet (mC (.bool false)))
    mNil)
    (mIf (mtst (mIsi2 .str (mVar 4)))
    (mIf (mOr (mNot (mtst (mIsi2 .str (mVar 3)))) (mtst (m2 (eqD true) (mVar 3) (mVar 4))))
    (mRet (mC (.bool false)))
    mNil)
    (mIf (mOr (mNot (mtst (mIsi2 .int (mVar 3)))) (mOr (mtst (mIsi2 .bl (mVar 3))) (mtst (m2 (eqD true) (mVar 3) (mVar 4)))))
    (mRet (mC (.bool false)))
    mNil))))) FUEL)
  (mRet (mC (.bool true)))))
def m_law_same : Mf := fn 6 b_law_same
/-- _law_asked: 0 ask, 1 claim, 2 seen, 3 kept, 4 denied -/
def b_law_asked : Ms := (mSeq (mSet 3 (mCall m_law_cases [(mVar 0), (mVar 1), (mC (.bool false))]))
  (mSeq (mSet 4 (mCall m_law_cases [(mVar 0), (mVar 1), (mC (.bool true))]))
  (mSeq (mPut 2 (mN lenD [(mVar 3)]) (m2 addD (m2 ixD (mVar 2) (mN lenD [(mVar 3)])) (mC (.int 1))))
  (mSeq (mPut 2 (m2 addD (mC (.int 2)) (mN lenD [(mVar 4)])) (m2 addD (m2 ixD (mVar 2) (m2 addD (mC (.int 2)) (mN lenD [(mVar 4)]))) (mC (.int 1))))
  (mSeq (mIf (mNot (mtst (mCall m_law_same [(mCall m_cases_of [(mVar 0), (mVar 1)]), (mVar 3)])))
    (mRet (mC (.bool false)))
    mNil)
  (mRet (mCall m_law_same [(mCallR m_denial_cases [(mVar 1), (mVar 0)]), (mVar 4)])))))))
def m_law_asked : Mf := fn 5 b_law_asked
/-- _law_claims: 0 pool, 1 web, 2 rules, 3 claim, 4 first, 5 last, 6 least, 7 most, 8 middle, 9 ends, 10 rows, 11 pair, 12 row -/
def b_law_claims : Ms := (mSeq (mSet 3 (mCall m_law_claim [(mVar 0), (mVar 1)]))
  (mSeq (mAsg (tgT [(tgN 4), (tgN 5)]) (mCall m_law_range [(mVar 1), (mVar 2), (mVar 3)]))
  (mSeq (mAsg (tgT [(tgN 6), (tgN 7)]) (m2 ixD (mLst [(mTup [(mC (.int 1)), (mC (.int 4))]), (mTup [(m1 negD (mC (.int 30))), (mC (.int 30))])]) (mN intD [(m2 (eqD false) (m2 ixD (mVar 3) (mC (.int 0))) (mC (.str "swing")))])))
  (mSeq (mSet 8 (m2 addD (mVar 4) (mCall m_law_take [(mVar 0), (m2 addD (m2 subD (mVar 5) (mVar 4)) (mC (.int 1)))])))
  (mSeq (mSetO 9 (mLst [(mTup [(mVar 4), (mVar 5)]), (mTup [(mVar 6), (mVar 7)]), (mTup [(mVar 4), (mVar 4)]), (mTup [(mVar 5), (mVar 5)]), (mTup [(mVar 8), (mVar 8)]), (mTup [(mVar 6), (mVar 8)]), (mTup [(mVar 8), (mVar 7)]), (mSl (mVar 3) (some (mC (.int 3))) none)]))
  (mSeq (mIf (mtst (m2 gtD (mVar 4) (mVar 6)))
    (mExp (mMeth "list" obAppend 9 [(mTup [(mVar 6), (m2 subD (mVar 4) (mC (.int 1)))])]))
    mNil)
  (mSeq (mIf (mtst (m2 (lt2 false) (mVar 5) (mVar 7)))
    (mExp (mMeth "list" obAppend 9 [(mTup [(m2 addD (mVar 5) (mC (.int 1))), (mVar 7)])]))
    mNil)
  (mFrz 9 (mSeq (mSetO 10 (mLc (mSrc (mVar 9)) (tgN 11) mYes (m2 addD (mSl (mVar 3) none (some (mC (.int 3)))) (mVar 11)) [11]))
  (mFrz 10 (mSeq (mIf (mtst (m2 (eqD false) (m2 ixD (mVar 3) (mC (.int 0))) (mC (.str "swing"))))
    (mSet 10 (m2 addD (mVar 10) (mLc (mSrc (mVar 10)) (tgN 12) mYes (mTup [(mC (.str "swing")), (m2 ixD (mVar 3) (mC (.int 2))), (m2 ixD (mVar 3) (mC (.int 1))), (m2 subD (mC (.int 0)) (m2 ixD (mVar 12) (mC (.int 4)))), (m2 subD (mC (.int 0)) (m2 ixD (mVar 12) (mC (.int 3))))]) [12])))
    mNil)
  (mRet (mVar 10)))))))))))))
def m_law_claims : Mf := fn 13 b_law_claims
/-- _law_turned: 0 ask, 1 seen, 2 web, 3 rules, 4 most, 5 one, 6 other, 7 corners, 8 links, 9 near, 10 low, 11 high, 12 told, 13 left -/
def b_law_turned : Ms := (mSeq (mAsg (tgT [(tgN 2), (tgN 3), (tgN 4)]) (mVar 0))
  (mSeq (mAsg (tgT [(tgN 5), (tgN 6)]) (m2 ixD (mCall m_law_links [(mVar 2)]) (mC (.int 0))))
  (mSeq (mAsg (tgT [(tgN 7), (tgN 8)]) (mVar 3))
  (mSeq (mSet 9 (mTup [(mVar 2), (mTup [(mVar 7), (m2 addD (mTup [(mTup [(m1 negD (mC (.int 2))), (mC (.int 2)), (m2 ixD (m2 ixD (mVar 8) (mC (.int 0))) (mC (.int 2)))])]) (mSl (mVar 8) (some (mC (.int 1))) none))]), (mVar 4)]))
  (mSeq (mFor (mSrc (mTup [(mTup [(mC (.int 0)), (mC (.int 0))]), (mTup [(m1 negD (mC (.int 2))), (mC (.int 1))]), (mTup [(m1 negD (mC (.int 2))), (mC (.int 2))]), (mTup [(mC (.int 3)), (mC (.int 30))]), (mTup [(m1 negD (mC (.int 30))), (m1 negD (mC (.int 1)))]), (mTup [(mC (.int 2)), (mC (.int 2))])])) (tgT [(tgN 10), (tgN 11)])
    (mIf (mOr (mNot (mtst (mCall m_law_asked [(mVar 9), (mTup [(mC (.str "swing")), (mVar 5), (mVar 6), (mVar 10), (mVar 11)]), (mVar 1)]))) (mNot (mtst (mCall m_law_asked [(mVar 9), (mTup [(mC (.str "swing")), (mVar 6), (mVar 5), (mVar 10), (mVar 11)]), (mVar 1)]))))
    (mRet (mC (.bool false)))
    mNil))
  (mSeq (mSet 12 (mCall m_denial_cases [(mVar 9), (mTup [(mC (.str "swing")), (mVar 6), (mVar 5), (mC (.int 0)), (mC (.int 1))])]))
  (mSeq (mSet 13 (mTup [(mTup [(mVar 7), (m2 addD (mTup [(mTup [(mC (.int 1)), (mC (.int 2)), (m2 ixD (m2 ixD (mVar 8) (mC (.int 0))) (mC (.int 2)))])]) (mSl (mVar 8) (some (mC (.int 1))) none))]), (mTup [(mVar 7), (m2 addD (mTup [(mTup [(m1 negD (mC (.int 2))), (m1 negD (mC (.int 2))), (m2 ixD (m2 ixD (mVar 8) (mC (.int 0))) (mC (.int 2)))])]) (mSl (mVar 8) (some (mC (.int 1))) none))])]))
  (mRet (mCall m_law_same [(mVar 12), (mTup [(mTup [(mVar 2), (m2 ixD (mVar 13) (mC (.int 0))), (mVar 4)]), (mTup [(mVar 2), (m2 ixD (mVar 13) (mC (.int 1))), (mVar 4)])])])))))))))
def m_law_turned : Mf := fn 14 b_law_turned
/-- law: 0 script, 1 pool, 2 seen, 3 webs, 4 table, 5 words, 6 spot, 7 web, 8 most, 9 rules, 10 claim -/
def b_law : Ms := (mSeq (mSetO 2 (mLst [(mC (.int 0)), (mC (.int 0)), (mC (.int 0)), (mC (.int 0)), (mC (.int 0))]))
  (mSeq (mSetO 3 (mLst [(mCall m_law_map [(mVar 1), (m2 addD (mC (.int 2)) (mCall m_law_take [(mVar 1), (mC (.int 7))]))]), (mCall m_law_map [(mVar 1), (m2 addD (mC (.int 2)) (mCall m_law_take [(mVar 1), (mC (.int 4))]))])]))
  (mSeq (mIf (mtst (m2 (eqD false) (mCall m_law_take [(mVar 1), (mC (.int 11))]) (mC (.int 2))))
    (mSeq (mSet 4 (mCallT m_law_smoothed (mVar 1) (mCall m_law_grid [(mVar 1), (mC (.int 8)), (mC (.int 6)), (mC (.int 40))])))
  (mSeq (mSetO 5 (mDNew (.dN [])))
  (mSeq (mFor (mSrc (mN sortedD [(mN listD [(mVar 4)])])) (tgN 6)
    (mPut 5 (mVar 6) (mCall m_law_word [(mVar 1), (mN lenD [(mVar 5)])])))
  (mExp (mMeth "list" obAppend 3 [(mCall m_law_named [(mVar 1), (mVar 4), (mVar 5)])])))))
    mNil)
  (mSeq (mFrz 3 (mFor (mSrc (mVar 3)) (tgN 7)
    (mSeq (mSet 8 (m2 ixD (mLst [(mC (.int 0)), (mC (.int 5000)), (mCall m_law_take [(mVar 1), (mC (.int 5001))])]) (mCall m_law_take [(mVar 1), (mC (.int 3))])))
  (mSeq (mFor (mSrc (mTup [(mCall m_law_free [(mVar 7)]), (mCall m_law_rules [(mVar 1), (mVar 7)])])) (tgN 9)
    (mFor (mSrc (mCall m_law_claims [(mVar 1), (mVar 7), (mVar 9)])) (tgN 10)
    (mIf (mNot (mtst (mCall m_law_asked [(mTup [(mVar 7), (mVar 9), (mVar 8)]), (mVar 10), (mVar 2)])))
    (mRet (mC (.bool false)))
    mNil)))
  (mIf (mNot (mtst (mCall m_law_turned [(mTup [(mVar 7), (mCall m_law_rules [(mVar 1), (mVar 7)]), (mVar 8)]), (mVar 2)])))
    (mRet (mC (.bool false)))
    mNil)))))
  (mRet (m2 gtD (mN (bestD PySem.W.minD) [(mVar 2)]) (mC (.int 0))))))))
end K28
set_option exponentiation.threshold 3000
/-! the pool of k28 -/
namespace K28
open PySem PyProof.Rows L2 HD G K2
section
variable {P : Program} {w : World} {K : PySem.W.Frag} {mg : Str → Option Value} {base : Heap}
theorem ite2 {p : Prop} [Decidable p] {a b : Prop} (h : p → a) (k : ¬p → b) : if decide p = true then a else b := by
  by_cases q : p
  · rw [if_pos (decide_eq_true q)]
    exact h q
  · rw [if_neg (fun z => q (of_decide_eq_true z))]
    exact k q
theorem ok_law_take (T : Txt K mg) : FnOk P w K mg base CX0 1 T.d_law_take.f T.d_law_take.fd ["pool", "many"] (spG (P, w) 2 m_law_take) := by
  refine T.d_law_take.F.ok sc_law_take (fun vs H Q E h => spG_len h) (fun cdv A outer s H vs Q E hr h => ?_)
  obtain ⟨B, ρ0, r, ρ1, sr, hl, em, q⟩ := h
  unfold m_law_take at em
  split at em
  · next k st gr many =>
    split at em
    · next hc =>
      obtain ⟨⟨x, st', gr'⟩, e1, e2⟩ := Option.map_eq_some_iff.mp em
      cases e2
      have hv : ∃ p, vs = [.ref p, .int many] := by
        obtain ⟨F, hF, _⟩ := sr.rep
        have l := sr.len
        match vs, l with
        | [v0, v1], _ =>
          obtain ⟨p, e3, _⟩ := hF 0 _ _ rfl rfl
          obtain ⟨y, e4, r4⟩ := hF 1 _ _ rfl rfl
          cases e3
          cases e4
          cases r4
          exact ⟨p, rfl⟩
      obtain ⟨p, rfl⟩ := hv
      have hp : ∃ g ws, p ≠ g ∧ H p = some (.lst [.int st, .ref g]) ∧ H g = some (.lst ws) ∧ RA (P, w) H ws gr := by
        obtain ⟨F, hF, _⟩ := sr.rep
        obtain ⟨p', e3, ⟨g, us, ws, zs, _, n, h1, h2, h3, h4, h5⟩, _⟩ := hF 0 _ _ rfl rfl
        cases e3
        cases h5
        cases h3 with
        | cons a t =>
          cases t
          cases a
          exact ⟨g, ws, n, h1, h2, h4⟩
      obtain ⟨g, ws, npg, h1, h2, h4⟩ := hp
      -- what is left when the pool is changed
      have fin : ∀ H' ws', (∀ a, a ≠ p → a ≠ g → H' a = H a) → H' p = some (.lst [.int st', .ref g]) → H' g = some (.lst ws') → (Fm H H' → RA (P, w) H' ws' gr') → Q (.int x) H' := fun H' ws' k1 k2 k3 k4 => by
        have fm : Fm H H' := fun a o u e => by
          rw [k1 a (fun z => by rw [z, h1] at e; cases e) (fun z => by rw [z, h2] at e; cases e)]
          exact e
        refine q _ H' ?_ (.int x) fm
        have := sr.write (i := 0) (H' := H') (o' := .pool [.int st'] gr' []) rfl (.inr ⟨k, rfl⟩) rfl fun F hF => by
          obtain ⟨g', us, ws2, zs, rfl, n, j1, j2, j3, j4, j5⟩ := hF
          cases j5
          cases j3 with
          | cons a t =>
            cases t
            cases a
            rw [h1] at j1
            cases j1
            refine ⟨fun a ha => k1 a (fun z => ha (by rw [z]; simp)) (fun z => ha (by rw [z]; simp)), g, [.int st'], ws', [], rfl, n, k2, k3, .cons (.int _) .nil, k4 fm, .nil⟩
        exact this
      refine ⟨_, (pss_cons (ps_set (i := 2) sc_law_take.nd rfl (Or.inl rfl) (pe_ix ix_list (pv 0) pe_int (fun _ _ => rfl)))
  (pss_cons (ps_if (pt_cmpR op_gt (pe_callB call_len (by rfl) T.n_len (by decide +kernel) (pa_cons (pv 2) pa_nil)) pe_int (nomark _))
    (pss_cons (ps_set (i := 3) sc_law_take.nd rfl (Or.inl rfl) (pe_bm0 PySem.F.plainAttrs_list PySem.F.slot_list_pop PySem.F.type_list_pop mt_pop (pv 2)))
  (pss_cons (ps_if (pt_cmpR op_ge (pv 3) (pv 1) (nomark _))
    (pss_one (ps_expr (pe_bm PySem.F.plainAttrs_list PySem.F.slot_list_append PySem.F.type_list_append mt_append (pv 2) (pa_cons (pe_op op_fdivW (pv 3) (pv 1)) pa_nil))))
    pss_nil)
  (pss_one (ps_ret (pe_op op_modN (pe_callTy call_int1 (by rfl) T.n_int (by decide +kernel) (pa_cons (pv 3) pa_nil)) (pv 1))))))
    pss_nil)
  (pss_cons (ps_asg (pe_op op_modN (pe_callTy call_int1 (by rfl) T.n_int (by decide +kernel) (pa_cons (pe_op op_add (pe_op op_mulW (pe_ix ix_list (pv 0) pe_int (fun _ _ => rfl)) pe_int) pe_int) pa_nil)) pe_int) (pg_sub (pv 0) pe_int set_list))
  (pss_one (ps_ret (pe_op op_modN (pe_op op_modN (pe_callTy call_int1 (by rfl) T.n_int (by decide +kernel) (pa_cons (pe_op op_add (pe_op op_mulW (pe_op op_fdivW (pe_ix ix_list (pv 0) pe_int (fun _ _ => rfl)) pe_int) pe_int) (pe_ix ix_list (pv 0) pe_int (fun _ _ => rfl))) pa_nil)) pe_int) (pv 1))))))), ?_⟩
      refine ⟨_, rfl, p, _, _, _, rfl, rfl, SqL.of h1, rfl, ?_⟩
      have lw := h4.length
      obtain ⟨hm1, hm2, hm3, hs1, hs2⟩ := hc
      refine ⟨_, rfl, _, _, rfl, .inl ⟨_, SqL.of h2, rfl⟩, _, _, rfl, rfl, _, rfl, ?_⟩
      cases hg : gr.getLast? with
      | none =>
        have e0 : gr = [] := List.getLast?_eq_none_iff.mp hg
        subst e0
        cases h4
        unfold takeP at e1
        cases e1
        refine (if_neg (by decide)).mpr ?_
        have b1 : (0 : Int) ≤ (st * 42797 + 829) % 2147483543 := Int.emod_nonneg _ (by decide)
        have b2 : (st * 42797 + 829) % 2147483543 < 2147483543 := Int.emod_lt_of_pos _ (by decide)
        have f1 : (st * 42797 + 829).fmod 2147483543 = (st * 42797 + 829) % 2147483543 := Int.fmod_eq_emod_of_nonneg _ (by decide)
        refine ⟨_, rfl, p, _, _, _, rfl, rfl, SqL.of h1, rfl, ?_⟩
        refine ⟨_, _, rfl, rfl, wide_mul (a := 33) (b := 20) (by omega) (by decide) (by decide) (by decide) (by decide), ?_⟩
        refine ⟨_, _, rfl, rfl, .inl ⟨_, rfl, _, _, rfl, rfl, (by show (2147483543 : Int) ≠ 0; decide), ?_⟩⟩
        dsimp only
        rw [f1]
        refine ⟨_, rfl, p, _, 0, 0, rfl, rfl, h1, rfl, ?_⟩
        have hu : upd H p (.lst (List.set [V.int st, V.ref g] 0 (V.int ((st * 42797 + 829) % 2147483543)))) p = some (.lst [V.int ((st * 42797 + 829) % 2147483543), V.ref g]) := upd_same
        refine ⟨_, rfl, p, _, _, _, rfl, rfl, SqL.of hu, rfl, _, _, rfl, rfl, ⟨by decide, by decide⟩, ?_⟩
        refine ⟨_, _, rfl, rfl, wide_mul (a := 33) (b := 20) (by omega) (by decide) (by decide) (by decide) (by decide), ?_⟩
        refine ⟨_, rfl, p, _, _, _, rfl, rfl, SqL.of hu, rfl, _, _, rfl, rfl, .inl ⟨_, rfl, _, _, rfl, rfl, (by show (1000000009 : Int) ≠ 0; decide), ?_⟩⟩
        refine ⟨_, rfl, _, _, rfl, rfl, (by show many ≠ 0; omega), ?_⟩
        dsimp only
        rw [Int.fmod_eq_emod_of_nonneg (b := many) _ (by omega), Int.fmod_eq_emod_of_nonneg _ (by decide)]
        exact fin _ [] (fun a n1 _ => upd_ne n1) hu (by rw [upd_ne (fun z => npg z.symm)]; exact h2) fun _ => .nil
      | some y =>
        have ne : 0 < ws.length := by
          rw [lw]
          cases gr with
          | nil => cases hg
          | cons _ _ => exact Nat.succ_pos _
        refine (if_pos (by simpa using ne)).mpr ?_
        unfold takeP at e1
        rw [hg] at e1
        cases y with
        | int size =>
          cases e1
          refine ⟨_, rfl, .inl ⟨rfl, _, SqL.of h2⟩, ?_⟩
          have hlast : ws[ws.length - 1]? = some (.int size) := by
            rw [List.getLast?_eq_getElem?] at hg
            obtain ⟨v, e5, e6⟩ := h4.get2 hg
            cases e6
            rw [lw]
            exact e5
          refine ⟨g, ws, .int size, rfl, rfl, h2, hlast, ?_⟩
          refine ⟨_, rfl, _, rfl, _, _, rfl, rfl, _, rfl, ?_⟩
          have h4' : RA (P, w) H ws.dropLast gr.dropLast := RA.dropLast h4
          refine ite2 (fun hge => ?_) (fun hlt => ?_)
          · rw [if_pos hge] at fin
            refine ⟨_, rfl, .inl ⟨rfl, _, SqL.of upd_same⟩, _, rfl, _, rfl, _, _, rfl, rfl, ⟨hm1, hm2⟩, ?_⟩
            refine ⟨g, _, _, rfl, rfl, upd_same, ?_, ?_⟩
            · rw [List.length_dropLast]
              exact Nat.lt_of_le_of_lt (Nat.sub_le _ _) (by rw [lw]; exact lim_line hm3)
            refine ⟨_, rfl, .inl ⟨_, rfl, _, rfl, _, _, rfl, rfl, (by show many ≠ 0; omega), ?_⟩⟩
            dsimp only
            rw [Int.fmod_eq_emod_of_nonneg (b := many) _ (by omega)]
            refine fin _ (ws.dropLast ++ [.int (size / many)]) (fun a _ n2 => by rw [upd_ne n2, upd_ne n2]) (by rw [upd_ne npg, upd_ne npg]; exact h1) upd_same fun f => ?_
            exact (RA.append h4' (.cons (.int _) .nil)).mono f
          · rw [if_neg hlt] at fin
            refine ⟨_, rfl, .inl ⟨_, rfl, _, rfl, _, _, rfl, rfl, (by show many ≠ 0; omega), ?_⟩⟩
            dsimp only
            rw [Int.fmod_eq_emod_of_nonneg (b := many) _ (by omega)]
            exact fin _ ws.dropLast (fun a _ n2 => by rw [upd_ne n2]) (by rw [upd_ne npg]; exact h1) upd_same fun f => h4'.mono f
        | _ => cases e1
    · cases em
  · cases em
def spPool (K : PySem.W.Frag) (P : Program) (w : World) : Sp := fun vs H Q _ => ∃ (a : Addr) (ns : List Int), vs = [.ref a] ∧ SqL K H a (ns.map V.int) ∧ ns.length ≤ 63 ∧
  ∀ p g H', Same H H' → H p = none → H g = none → p ≠ g → H' p = some (.lst [.int (poolOf ns).1, .ref g]) → H' g = some (.lst ((poolOf ns).2.map V.int)) → Q (.ref p) H'
theorem poolOf_succ {ns : List Int} {i : Nat} (h : i < ns.length) : poolOf (ns.take (i + 1)) = poolStep (poolOf (ns.take i)) ns[i] := by
  unfold poolOf
  rw [List.take_succ_eq_append_getElem h, List.foldl_append]
  rfl
theorem poolOf_ok (ns : List Int) : (0 ≤ (poolOf ns).1 ∧ (poolOf ns).1 < 2147483648) ∧ (poolOf ns).2.length ≤ ns.length := by
  unfold poolOf
  suffices h : ∀ (ns : List Int) (q : Int × List Int), (0 ≤ q.1 ∧ q.1 < 2147483648) → (0 ≤ (ns.foldl poolStep q).1 ∧ (ns.foldl poolStep q).1 < 2147483648) ∧ (ns.foldl poolStep q).2.length ≤ q.2.length + ns.length by
    have := h ns (62311, []) (by decide)
    exact ⟨this.1, by simpa using this.2⟩
  intro ns
  induction ns with
  | nil => exact fun q h => ⟨h, Nat.le_refl _⟩
  | cons c cs ih =>
    intro q h
    have b : 0 ≤ (poolStep q c).1 ∧ (poolStep q c).1 < 2147483648 := by
      unfold poolStep
      constructor
      · exact Int.emod_nonneg _ (by decide)
      · exact Int.lt_trans (Int.emod_lt_of_pos _ (by decide)) (by decide)
    have l : (poolStep q c).2.length ≤ q.2.length + 1 := by
      have any : ∀ (p : Prop) [Decidable p] (l : List Int) (x : Int), (if p then l ++ [x] else l).length ≤ l.length + 1 := fun p _ l x => by
        split
        · simp
        · omega
      exact any _ _ _
    obtain ⟨h1, h2⟩ := ih (poolStep q c) b
    refine ⟨h1, ?_⟩
    rw [List.foldl_cons, List.length_cons]
    omega
theorem ok_law_pool (T : Txt K mg) : FnOk P w K mg base CX0 1 T.d_law_pool.f T.d_law_pool.fd ["script"] (spPool K P w) := by
  refine T.d_law_pool.F.ok sc_law_pool (fun vs H Q E h => ?_) (fun cdv A outer s H vs Q E hr h => ?_)
  · obtain ⟨_, _, rfl, _⟩ := h
    rfl
  · obtain ⟨a, ns, rfl, hS, hl, q⟩ := h
    refine ⟨_, (pss_cons (ps_set (i := 1) sc_law_pool.nd rfl (Or.inl rfl) pe_int)
  (pss_cons (ps_set (i := 2) sc_law_pool.nd rfl (Or.inl rfl) (pe_lst pa_nil))
  (pss_cons (ps_for PassesOwn.never rfl (pi_list (pe_slice sl_list (pv 0) po_none (po_some pe_int))) (pg_name (i := 3) sc_law_pool.nd rfl (Or.inl rfl))
    (pss_cons (ps_set (i := 4) sc_law_pool.nd rfl (Or.inl rfl) (pe_op op_modN (pe_callB call_abs (by rfl) T.n_abs (by decide +kernel) (pa_cons (pe_callTy call_int1 (by rfl) T.n_int (by decide +kernel) (pa_cons (pv 3) pa_nil)) pa_nil)) (pe_op op_shl pe_int pe_int)))
  (pss_cons (ps_set (i := 1) sc_law_pool.nd rfl (Or.inl rfl) (pe_op op_modN (pe_callTy call_int1 (by rfl) T.n_int (by decide +kernel) (pa_cons (pe_op op_add (pe_op op_add (pe_op op_add (pe_op op_mulW (pv 1) pe_int) (pe_op op_modN (pv 4) pe_int)) (pe_op op_mulW pe_int (pe_callTy call_int1 (by rfl) T.n_int (by decide +kernel) (pa_cons (pe_cmpR op_lt (pe_callTy call_int1 (by rfl) T.n_int (by decide +kernel) (pa_cons (pv 3) pa_nil)) pe_int (nomark _)) pa_nil)))) pe_int) pa_nil)) pe_int))
  (pss_one (ps_if (pt_cmpR op_ge (pv 4) (pe_op op_pow pe_int pe_int) (nomark _))
    (pss_one (ps_expr (pe_bm PySem.F.plainAttrs_list PySem.F.slot_list_append PySem.F.type_list_append mt_append (pv 2) (pa_cons (pv 4) pa_nil))))
    pss_nil)))))
  (pss_one (ps_ret (pe_lst (pa_cons (pv 1) (pa_cons (pv 2) pa_nil)))))))), ?_⟩
    refine ⟨(by show 0 ≤ sizeLine; decide), fun hh hh0 => ?_⟩
    have s1 : Same H (upd H hh (.lst [])) := same_new hh0
    refine ⟨_, rfl, _, rfl, a, _, rfl, s1.seq hS, fun qq hq => ?_⟩
    have ecut : cutV (ns.map V.int) none (some 63) = ns.map V.int := by
      unfold cutV
      rw [HT.sIx_none, show (63 : Int) = ((63 : Nat) : Int) from rfl, HT.sIx_nat, List.length_map, Nat.min_eq_right hl, List.drop_zero, Nat.sub_zero]
      exact List.take_of_length_le (by rw [List.length_map]; exact Nat.le_refl _)
    rw [ecut]
    have nq : qq ≠ hh := fun z => by
      rw [z, upd_same] at hq
      cases hq
    have s2 : Same H (upd (upd H hh (.lst [])) qq (.lst (ns.map V.int))) := s1.trans (same_new hq)
    refine ⟨qq, rfl, ⟨_, SqL.of upd_same⟩, for_list (K := K) (a := qq) (xs := ns.map V.int) (fun i σ' H' => ∃ (u v : Option V), σ' = [some (.ref a), some (.int (poolOf (ns.take i)).1), some (.ref hh), u, v] ∧ Same H H' ∧ H' qq = some (.lst (ns.map V.int)) ∧ H' hh = some (.lst ((poolOf (ns.take i)).2.map V.int))) ?_ ?_ ?_ ?_⟩
    · exact ⟨_, _, rfl, s2, upd_same, by rw [upd_ne (fun z => nq z.symm)]; exact upd_same⟩
    · rintro i σ' H' _ ⟨u, v, _, _, h2, _⟩
      exact SqL.of h2
    · rintro i x σ' H' hx ⟨u, v, rfl, h1, h2, h3⟩
      rw [List.getElem?_map] at hx
      obtain ⟨c, hc, rfl⟩ := Option.map_eq_some_iff.mp hx
      obtain ⟨hi, hc2⟩ := List.getElem?_eq_some_iff.mp hc
      have es := poolOf_succ hi
      rw [hc2] at es
      obtain ⟨⟨b1, b2⟩, b3⟩ := poolOf_ok (ns.take i)
      have big : (1 * 2 ^ (2000 : Int).toNat : Int) = 2 ^ 2000 := by rw [Int.one_mul]; rfl
      have bpos : (0 : Int) < 2 ^ 2000 := Int.pow_pos (by decide)
      have f0 : ∀ x : Int, x.fmod (1 * 2 ^ (2000 : Int).toNat) = x % 2 ^ 2000 := fun x => by
        rw [big]
        exact Int.fmod_eq_emod_of_nonneg _ (Int.le_of_lt bpos)
      have nz : (1 * 2 ^ (2000 : Int).toNat : Int) ≠ 0 := by
        rw [big]
        exact fun z => by rw [z] at bpos; exact absurd bpos (by decide)
      refine ⟨_, rfl, .inl ⟨_, rfl, _, rfl, _, _, rfl, rfl, ⟨by decide, by decide, by decide⟩, _, _, rfl, rfl, nz, ?_⟩⟩
      show gName 4 (V.int ((if c < 0 then -c else c).fmod (1 * 2 ^ (2000 : Int).toNat))) _ _ _
      rw [f0]
      have hb1 : (0 : Int) ≤ (if c < 0 then -c else c) % 2 ^ 2000 := Int.emod_nonneg _ (fun z => by rw [z] at bpos; exact absurd bpos (by decide))
      have e2 : (poolStep (poolOf (ns.take i)) c).1 = ((poolOf (ns.take i)).1 * 27751 + (if c < 0 then -c else c) % 2 ^ 2000 % 2147483543 + 5 * (if c < 0 then 1 else 0) + 3) % 2147483543 := rfl
      have e3 : (poolStep (poolOf (ns.take i)) c).2 = if 10 ^ 18 ≤ (if c < 0 then -c else c) % 2 ^ 2000 then (poolOf (ns.take i)).2 ++ [(if c < 0 then -c else c) % 2 ^ 2000] else (poolOf (ns.take i)).2 := rfl
      rw [← es] at e2 e3
      generalize (if c < 0 then -c else c) % 2 ^ 2000 = sz at *
      refine ⟨_, rfl, _, _, rfl, rfl, wide_mul (a := 33) (b := 20) (by omega) (by decide) (by decide) (by decide) (by decide), ?_⟩
      refine ⟨_, rfl, _, _, rfl, rfl, (by show (2147483543 : Int) ≠ 0; decide), _, _, rfl, rfl, ?_⟩
      refine ⟨_, rfl, .inl ⟨_, rfl, _, _, rfl, rfl, .inr ⟨_, rfl, _, _, rfl, rfl, ?_, _, _, rfl, rfl, _, _, rfl, rfl, .inl ⟨_, rfl, _, _, rfl, rfl, (by show (2147483543 : Int) ≠ 0; decide), ?_⟩⟩⟩⟩
      · split <;> exact wide_mul (a := 33) (b := 20) (by decide) (by decide) (by decide) (by decide) (by decide)
      show gName 1 (V.int (((poolOf (ns.take i)).1 * 27751 + sz.fmod 2147483543 + 5 * (if decide (c < 0) = true then 1 else 0) + 3).fmod 2147483543)) _ _ _
      have e4 : ((poolOf (ns.take i)).1 * 27751 + sz.fmod 2147483543 + 5 * (if decide (c < 0) = true then 1 else 0) + 3).fmod 2147483543 = (poolOf (ns.take (i + 1))).1 := by
        rw [e2, Int.fmod_eq_emod_of_nonneg _ (by decide), Int.fmod_eq_emod_of_nonneg _ (by decide)]
        by_cases hc0 : c < 0 <;> simp [hc0]
      rw [e4]
      refine ⟨_, rfl, _, _, rfl, rfl, ⟨by decide, by decide, by decide⟩, _, _, rfl, rfl, _, rfl, ?_⟩
      have e5 : (10 : Int) ^ (18 : Int).toNat = 10 ^ 18 := rfl
      refine ite2 (fun hge => ?_) (fun hlt => ?_)
      · rw [e5] at hge
        rw [if_pos hge] at e3
        have l3 : (poolOf (ns.take i)).2.length ≤ 63 := Nat.le_trans b3 (by rw [List.length_take]; omega)
        refine ⟨_, rfl, .inl ⟨rfl, _, SqL.of h3⟩, _, rfl, hh, _, _, rfl, rfl, h3, ?_, ?_⟩
        · rw [List.length_map]
          exact Nat.lt_of_le_of_lt l3 (by decide)
        · refine ⟨_, _, rfl, h1.put hh0, by rw [upd_ne nq]; exact h2, ?_⟩
          rw [upd_same, e3, List.map_append]
          rfl
      · rw [e5] at hlt
        rw [if_neg hlt] at e3
        exact ⟨_, _, rfl, h1, h2, by rw [e3]; exact h3⟩
    · rintro σ' H' ⟨u, v, rfl, h1, h2, h3⟩
      rw [List.length_map, List.take_length] at h3
      refine ⟨_, rfl, _, rfl, (by show 2 ≤ sizeLine; decide), fun p hp => ?_⟩
      have hpn : H p = none := by
        cases e : H p with
        | none => rfl
        | some u =>
          rw [h1 _ _ e] at hp
          cases hp
      have nph : p ≠ hh := fun z => by
        rw [z, h3] at hp
        cases hp
      refine q p hh _ (h1.trans (same_new hp)) hpn hh0 nph ?_ (by rw [upd_ne (fun z => nph z.symm)]; exact h3)
      rw [upd_same, List.length_map, List.take_length]
/-- what law asks: a list of at most 63 whole numbers, for which its mirror says True -/
def spLaw (K : PySem.W.Frag) (P : Program) (w : World) : Sp := fun vs H Q _ => ∃ (a : Addr) (ns : List Int), vs = [.ref a] ∧ SqL K H a (ns.map V.int) ∧ ns.length ≤ 63 ∧ (∃ ρ, b_law (law0 9 ns) = some (.rt (.bool true) ρ)) ∧ ∀ H', Q (.bl true) H'
theorem spLaw_len {vs : List V} {H : Hp} {Q : VK} {E : XK} (h : spLaw K P w vs H Q E) : vs.length = 1 := by
  obtain ⟨_, _, rfl, _⟩ := h
  rfl
theorem ints_ra {C : Program × World} {H : Hp} : ∀ is : List Int, RA C H (is.map V.int) (is.map PyData.int)
  | [] => .nil
  | i :: is => .cons (.int i) (ints_ra is)
theorem law_fin {N : List Str} (hN : N.length = 11) {vs : List V} {H : Hp} {Q : VK} {E : XK} (h : spLaw K P w vs H Q E) : tSeq (tAsg (tCall (spPool K P w) [] E (tCons (tVar 0) tNil)) (gName 1)) (tS (P, w) b_law) { nx := fun _ H' => Q .non H', rt := Q } (L2.start N vs) H := by
  obtain ⟨a, ns, rfl, hS, hl, ⟨ρ, e⟩, q⟩ := h
  have s0 : SR (P, w) [] H ([V.ref a].map some) H [.non] := by
    refine ⟨rfl, fun _ _ e _ => e, fun _ e => e, Fm.refl H, fun b hb => (nomatch hb), fun _ => [], fun i s v x y => ?_, fun i j s t ne x y hs ht => ?_⟩
    · cases i with
      | zero =>
        cases x
        trivial
      | succ i => simp at x
    · cases i with
      | zero =>
        cases x
        cases hs
      | succ i => simp at x
  have s1 := sr_start (n := 10) s0
  have hst : L2.start N [.ref a] = [V.ref a].map some ++ List.replicate 10 none := by
    unfold L2.start
    rw [hN]
    rfl
  rw [hst]
  refine ⟨_, rfl, a, ns, rfl, hS, hl, fun p g H' sm hp hg n h1 h2 => ?_⟩
  have s2 := s1.same sm
  have nob : ∀ (i : Nat) (t : Sl), ([Sl.non] ++ List.replicate 10 Sl.non)[i]? = some t → t.ob.isSome = true → False := fun i t x ht => by
    have : t ∈ ([Sl.non] ++ List.replicate 10 Sl.non) := List.mem_of_getElem? x
    have : t = Sl.non := by simpa using this
    rw [this] at ht
    cases ht
  have s3 : SR (P, w) [] H (([V.ref a].map some ++ List.replicate 10 none) ++ [some (.ref p)]) H' (([Sl.non] ++ List.replicate 10 Sl.non) ++ [.own (.pool [.int (poolOf ns).1] ((poolOf ns).2.map .int) [])]) := by
    obtain ⟨F, hF, hd⟩ := s2.rep
    refine ⟨by simp, s2.off, s2.grow, s2.fm, s2.bx, push_rep s2.len hF hd (G := [p, g]) ⟨p, rfl, ⟨g, [.int (poolOf ns).1], _, [], rfl, n, h1, h2, .cons (.int _) .nil, ints_ra _, .nil⟩, fun b hb => ?_⟩ fun _ b hb i t x ht => (nob i t x ht).elim⟩
    rcases List.mem_cons.mp hb with z | z
    · rw [z]
      exact hp
    · rw [List.mem_singleton.mp z]
      exact hg
  exact ⟨[], H, law0 9 ns, _, s3.setOwn 1, e, fun v σ' H'' s f r => by
    cases r
    exact q H''⟩
end
end K28
/-! the walks of law_k28_cases, written by gen2.py -/
namespace K28
open PySem PyProof.Rows L2 HD G K2
section
variable {P : Program} {w : World} {K : PySem.W.Frag} {mg : Str → Option Value} {base : Heap}
theorem ok_turn_table (T : Txt K mg) : FnOk P w K mg base CX0 1 T.d_turn_table.f T.d_turn_table.fd ["web"] (spG (P, w) 1 m_turn_table) :=
  T.d_turn_table.F.ok sc_turn_table (fun vs H Q E h => spG_len h) fun cdv A outer s H vs Q E hr h => ⟨tS (P, w) b_turn_table, (gss_one (gs_ret (gx_dc (tv := ([1] ++ ([2] ++ []))) (own := [("name", 1), ("ways", 2)]) rfl sc_turn_table.nd (gi_seq (gx_ix op_ixG do_ix (gv 0) gx_int (fun _ _ => rfl))) (blkOk_by (own := [("name", 1), ("ways", 2)]) (N := ["web", "name", "ways"]) (sc := defScope s_turn_table) (by decide +kernel)) (fun _ _ _ _ _ => by refine (gg_tup ?_ ?_); (exact rfl); (refine (ggs_cons (K := K) (b := false) (t1 := [1]) ?_ ?_); (refine (gg_name (K := K) (i := 1) ?_ ?_ ?_); (exact sc_turn_table.nd); (exact rfl); (exact (Or.inl rfl))); (refine (ggs_cons (K := K) (b := false) (t1 := [2]) ?_ ggs_nil); (refine (gg_name (K := K) (i := 2) ?_ ?_ ?_); (exact sc_turn_table.nd); (exact rfl); (exact (Or.inl rfl)))))) (fun _ _ _ _ _ => by exact gpts_nil) (fun _ _ _ _ _ => by exact (gv 1)) (fun _ _ _ _ _ => by exact (gv 2))))), fn_run (N := ["web", "name", "ways"]) h⟩
theorem ok_names_of (T : Txt K mg) : FnOk P w K mg base CX0 1 T.d_names_of.f T.d_names_of.fd ["web"] (spG (P, w) 1 m_names_of) :=
  T.d_names_of.F.ok sc_names_of (fun vs H Q E h => spG_len h) fun cdv A outer s H vs Q E hr h => ⟨tS (P, w) b_names_of, (gss_one (gs_ret (gx_callTy dc_tuple op_tupG (by rfl) T.n_tuple (by decide +kernel) (ga_cons (gx_lc (tv := ([1] ++ ([2] ++ []))) (own := [("name", 1), ("_", 2)]) rfl sc_names_of.nd (gi_seq (gx_ix op_ixG do_ix (gv 0) gx_int (fun _ _ => rfl))) (blkOk_by (own := [("name", 1), ("_", 2)]) (N := ["web", "name", "_"]) (sc := defScope s_names_of) (by decide +kernel)) (fun _ _ _ _ _ => by refine (gg_tup ?_ ?_); (exact rfl); (refine (ggs_cons (K := K) (b := false) (t1 := [1]) ?_ ?_); (refine (gg_name (K := K) (i := 1) ?_ ?_ ?_); (exact sc_names_of.nd); (exact rfl); (exact (Or.inl rfl))); (refine (ggs_cons (K := K) (b := false) (t1 := [2]) ?_ ggs_nil); (refine (gg_name (K := K) (i := 2) ?_ ?_ ?_); (exact sc_names_of.nd); (exact rfl); (exact (Or.inl rfl)))))) (fun _ _ _ _ _ => by exact gpts_nil) (fun _ _ _ _ _ => by exact (gv 1))) ga_nil)))), fn_run (N := ["web", "name", "_"]) h⟩
theorem ok_dart_list (T : Txt K mg) : FnOk P w K mg base CX0 1 T.d_dart_list.f T.d_dart_list.fd ["web"] (spG (P, w) 1 m_dart_list) :=
  T.d_dart_list.F.ok sc_dart_list (fun vs H Q E h => spG_len h) fun cdv A outer s H vs Q E hr h => ⟨tS (P, w) b_dart_list, (gss_one (gs_ret (gx_lc2 (tv := ([1] ++ ([2] ++ []))) (tv1 := [3]) (own := [("name", 1), ("ways", 2), ("other", 3)]) (vs1 := [3]) rfl sc_dart_list.nd (gi_seq (gx_ix op_ixG do_ix (gv 0) gx_int (fun _ _ => rfl))) (blkOk_by (own := [("name", 1), ("ways", 2), ("other", 3)]) (N := ["web", "name", "ways", "other"]) (sc := defScope s_dart_list) (by decide +kernel)) (by decide) (fun _ _ _ _ _ => by refine (gg_tup ?_ ?_); (exact rfl); (refine (ggs_cons (K := K) (b := false) (t1 := [1]) ?_ ?_); (refine (gg_name (K := K) (i := 1) ?_ ?_ ?_); (exact sc_dart_list.nd); (exact rfl); (exact (Or.inl rfl))); (refine (ggs_cons (K := K) (b := false) (t1 := [2]) ?_ ggs_nil); (refine (gg_name (K := K) (i := 2) ?_ ?_ ?_); (exact sc_dart_list.nd); (exact rfl); (exact (Or.inl rfl)))))) (fun _ _ _ _ _ => by exact gpts_nil) (fun _ _ _ _ _ => by refine (gi_seq ?_); (refine (gx_callB dc_sorted (cr_sortD hr.units) (by rfl) T.n_sorted (by decide +kernel) ?_); (refine (ga_cons ?_ ga_nil); (exact (gv 2))))) (fun _ _ _ _ _ => by refine (gg_name (K := K) (i := 3) ?_ ?_ ?_); (exact sc_dart_list.nd); (exact rfl); (exact (Or.inl rfl))) (fun _ _ _ _ _ => by exact gpts_nil) (fun _ _ _ _ _ => by refine (gx_tup ?_); (refine (ga_cons ?_ ?_); (exact (gv 1)); (refine (ga_cons ?_ ga_nil); (exact (gv 3)))))))), fn_run (N := ["web", "name", "ways", "other"]) h⟩
theorem ok_link_list (T : Txt K mg) : FnOk P w K mg base CX0 2 T.d_link_list.f T.d_link_list.fd ["web"] (spG (P, w) 1 m_link_list) :=
  T.d_link_list.F.ok sc_link_list (fun vs H Q E h => spG_len h) fun cdv A outer s H vs Q E hr h => ⟨tS (P, w) b_link_list, (gss_one (gs_ret (gx_lc (tv := ([1] ++ ([2] ++ []))) (own := [("name", 1), ("other", 2)]) rfl sc_link_list.nd (gi_seq (gx_call (ok_dart_list T) (hr.mono (by decide)) (by rfl) T.d_dart_list.m T.d_dart_list.F.kp T.d_dart_list.b pass0 (ga_cons (gv 0) ga_nil))) (blkOk_by (own := [("name", 1), ("other", 2)]) (N := ["web", "name", "other"]) (sc := defScope s_link_list) (by decide +kernel)) (fun _ _ _ _ _ => by refine (gg_tup ?_ ?_); (exact rfl); (refine (ggs_cons (K := K) (b := false) (t1 := [1]) ?_ ?_); (refine (gg_name (K := K) (i := 1) ?_ ?_ ?_); (exact sc_link_list.nd); (exact rfl); (exact (Or.inl rfl))); (refine (ggs_cons (K := K) (b := false) (t1 := [2]) ?_ ggs_nil); (refine (gg_name (K := K) (i := 2) ?_ ?_ ?_); (exact sc_link_list.nd); (exact rfl); (exact (Or.inl rfl)))))) (fun _ _ _ _ _ => by refine (gpts_one ?_); (refine (gt_cmp op_ltG do_lt ?_ ?_ (nomark _)); (exact (gv 1)); (exact (gv 2)))) (fun _ _ _ _ _ => by refine (gx_tup ?_); (refine (ga_cons ?_ ?_); (exact (gv 1)); (refine (ga_cons ?_ ga_nil); (exact (gv 2)))))))), fn_run (N := ["web", "name", "other"]) h⟩
theorem ok_link_of (T : Txt K mg) : FnOk P w K mg base CX0 1 T.d_link_of.f T.d_link_of.fd ["a", "b"] (spG (P, w) 2 m_link_of) :=
  T.d_link_of.F.ok sc_link_of (fun vs H Q E h => spG_len h) fun cdv A outer s H vs Q E hr h => ⟨tS (P, w) b_link_of, (gss_one (gs_ret (gx_tup (ga_cons (gx_callB dc_min (op_minG rfl hr.units) (by rfl) T.n_min (by decide +kernel) (ga_cons (gv 0) (ga_cons (gv 1) ga_nil))) (ga_cons (gx_callB dc_max (op_maxG rfl hr.units) (by rfl) T.n_max (by decide +kernel) (ga_cons (gv 0) (ga_cons (gv 1) ga_nil))) ga_nil))))), fn_run (N := ["a", "b"]) h⟩
theorem ok_are_neighbours (T : Txt K mg) : FnOk P w K mg base CX0 2 T.d_are_neighbours.f T.d_are_neighbours.fd ["web", "a", "b"] (spG (P, w) 3 m_are_neighbours) :=
  T.d_are_neighbours.F.ok sc_are_neighbours (fun vs H Q E h => spG_len h) fun cdv A outer s H vs Q E hr h => ⟨tS (P, w) b_are_neighbours, (gss_one (gs_ret (gx_cmp (op_inG (u65 hr)) do_in (gv 2) (gx_dget2 (u65 hr) (gx_call (ok_turn_table T) (hr.mono (by decide)) (by rfl) T.d_turn_table.m T.d_turn_table.F.kp T.d_turn_table.b pass0 (ga_cons (gv 0) ga_nil)) (gv 1) (gx_tup ga_nil) ⟨rfl, rfl, rfl, rfl⟩) (by rfl)))), fn_run (N := ["web", "a", "b"]) h⟩
theorem ok_dart_or_raise (T : Txt K mg) : FnOk P w K mg base CX0 3 T.d_dart_or_raise.f T.d_dart_or_raise.fd ["web", "a", "b"] (spG (P, w) 3 m_dart_or_raise) :=
  T.d_dart_or_raise.F.ok sc_dart_or_raise (fun vs H Q E h => spG_len h) fun cdv A outer s H vs Q E hr h => ⟨tS (P, w) b_dart_or_raise, (gss_one (gs_if (gt_not (gt_val (gx_call (ok_are_neighbours T) (hr.mono (by decide)) (by rfl) T.d_are_neighbours.m T.d_are_neighbours.F.kp T.d_are_neighbours.b pass0 (ga_cons (gv 0) (ga_cons (gv 1) (ga_cons (gv 2) ga_nil))))))
    (gss_one gs_never)
    gss_nil)), fn_run (N := ["web", "a", "b"]) h⟩
theorem ok_corner_place (T : Txt K mg) : FnOk P w K mg base CX0 2 T.d_corner_place.f T.d_corner_place.fd ["web", "a", "b"] (spG (P, w) 3 m_corner_place) :=
  T.d_corner_place.F.ok sc_corner_place (fun vs H Q E h => spG_len h) fun cdv A outer s H vs Q E hr h => ⟨tS (P, w) b_corner_place, (gss_one (gs_ret (gx_tup (ga_cons (gx_idx (u65 hr) (gx_call (ok_names_of T) (hr.mono (by decide)) (by rfl) T.d_names_of.m T.d_names_of.F.kp T.d_names_of.b pass0 (ga_cons (gv 0) ga_nil)) (gv 1)) (ga_cons (gx_idx (u65 hr) (gx_dget (u65 hr) (gx_call (ok_turn_table T) (hr.mono (by decide)) (by rfl) T.d_turn_table.m T.d_turn_table.F.kp T.d_turn_table.b pass0 (ga_cons (gv 0) ga_nil)) (gv 1) (fun _ _ => rfl)) (gv 2)) ga_nil))))), fn_run (N := ["web", "a", "b"]) h⟩
theorem ok_link_place (T : Txt K mg) : FnOk P w K mg base CX0 3 T.d_link_place.f T.d_link_place.fd ["web", "a", "b"] (spG (P, w) 3 m_link_place) :=
  T.d_link_place.F.ok sc_link_place (fun vs H Q E h => spG_len h) fun cdv A outer s H vs Q E hr h => ⟨tS (P, w) b_link_place, (gss_one (gs_ret (gx_idx (u65 hr) (gx_call (ok_link_list T) (hr.mono (by decide)) (by rfl) T.d_link_list.m T.d_link_list.F.kp T.d_link_list.b pass0 (ga_cons (gv 0) ga_nil)) (gx_call (ok_link_of T) (hr.mono (by decide)) (by rfl) T.d_link_of.m T.d_link_of.F.kp T.d_link_of.b pass0 (ga_cons (gv 1) (ga_cons (gv 2) ga_nil)))))), fn_run (N := ["web", "a", "b"]) h⟩
theorem ok_corner_rule (T : Txt K mg) : FnOk P w K mg base CX0 4 T.d_corner_rule.f T.d_corner_rule.fd ["web", "rules", "a", "b"] (spG (P, w) 4 m_corner_rule) :=
  T.d_corner_rule.F.ok sc_corner_rule (fun vs H Q E h => spG_len h) fun cdv A outer s H vs Q E hr h => ⟨tS (P, w) b_corner_rule, (gss_cons (gs_expr (gx_call (ok_dart_or_raise T) (hr.mono (by decide)) (by rfl) T.d_dart_or_raise.m T.d_dart_or_raise.F.kp T.d_dart_or_raise.b pass0 (ga_cons (gv 0) (ga_cons (gv 2) (ga_cons (gv 3) ga_nil)))))
  (gss_cons (gs_asg (gx_call (ok_corner_place T) (hr.mono (by decide)) (by rfl) T.d_corner_place.m T.d_corner_place.F.kp T.d_corner_place.b pass0 (ga_cons (gv 0) (ga_cons (gv 2) (ga_cons (gv 3) ga_nil)))) (gg_tup rfl (ggs_cons (K := K) (b := false) (t1 := [4]) (gg_name (K := K) (i := 4) sc_corner_rule.nd rfl (Or.inl rfl)) (ggs_cons (K := K) (b := false) (t1 := [5]) (gg_name (K := K) (i := 5) sc_corner_rule.nd rfl (Or.inl rfl)) ggs_nil))))
  (gss_one (gs_ret (gx_ix op_ixG do_ix (gx_ix op_ixG do_ix (gx_ix op_ixG do_ix (gv 1) gx_int (fun _ _ => rfl)) (gv 4) (fun _ _ => rfl)) (gv 5) (fun _ _ => rfl)))))), fn_run (N := ["web", "rules", "a", "b", "place", "corner"]) h⟩
theorem ok_turned_bounds (T : Txt K mg) : FnOk P w K mg base CX0 1 T.d_turned_bounds.f T.d_turned_bounds.fd ["low", "high", "a", "b"] (spG (P, w) 4 m_turned_bounds) :=
  T.d_turned_bounds.F.ok sc_turned_bounds (fun vs H Q E h => spG_len h) fun cdv A outer s H vs Q E hr h => ⟨tS (P, w) b_turned_bounds, (gss_one (gs_ret (gx_ifE (gt_cmp op_ltG do_lt (gv 2) (gv 3) (nomark _)) (gx_tup (ga_cons (gv 0) (ga_cons (gv 1) ga_nil))) (gx_tup (ga_cons (gx_un un_neg du_neg (gv 1)) (ga_cons (gx_un un_neg du_neg (gv 0)) ga_nil)))))), fn_run (N := ["low", "high", "a", "b"]) h⟩
theorem ok_swing_rule (T : Txt K mg) : FnOk P w K mg base CX0 4 T.d_swing_rule.f T.d_swing_rule.fd ["web", "rules", "a", "b"] (spG (P, w) 4 m_swing_rule) :=
  T.d_swing_rule.F.ok sc_swing_rule (fun vs H Q E h => spG_len h) fun cdv A outer s H vs Q E hr h => ⟨tS (P, w) b_swing_rule, (gss_cons (gs_expr (gx_call (ok_dart_or_raise T) (hr.mono (by decide)) (by rfl) T.d_dart_or_raise.m T.d_dart_or_raise.F.kp T.d_dart_or_raise.b pass0 (ga_cons (gv 0) (ga_cons (gv 2) (ga_cons (gv 3) ga_nil)))))
  (gss_cons (gs_asg (gx_ix op_ixG do_ix (gx_ix op_ixG do_ix (gv 1) gx_int (fun _ _ => rfl)) (gx_call (ok_link_place T) (hr.mono (by decide)) (by rfl) T.d_link_place.m T.d_link_place.F.kp T.d_link_place.b pass0 (ga_cons (gv 0) (ga_cons (gv 2) (ga_cons (gv 3) ga_nil)))) (fun _ _ => rfl)) (gg_tup rfl (ggs_cons (K := K) (b := false) (t1 := [4]) (gg_name (K := K) (i := 4) sc_swing_rule.nd rfl (Or.inl rfl)) (ggs_cons (K := K) (b := false) (t1 := [5]) (gg_name (K := K) (i := 5) sc_swing_rule.nd rfl (Or.inl rfl)) (ggs_cons (K := K) (b := false) (t1 := [6]) (gg_name (K := K) (i := 6) sc_swing_rule.nd rfl (Or.inl rfl)) ggs_nil)))))
  (gss_one (gs_ret (gx_call (ok_turned_bounds T) (hr.mono (by decide)) (by rfl) T.d_turned_bounds.m T.d_turned_bounds.F.kp T.d_turned_bounds.b pass0 (ga_cons (gv 4) (ga_cons (gv 5) (ga_cons (gv 2) (ga_cons (gv 3) ga_nil))))))))), fn_run (N := ["web", "rules", "a", "b", "low", "high", "_"]) h⟩
theorem ok_put_at (T : Txt K mg) : FnOk P w K mg base CX0 1 T.d_put_at.f T.d_put_at.fd ["row", "place", "thing"] (spG (P, w) 3 m_put_at) :=
  T.d_put_at.F.ok sc_put_at (fun vs H Q E h => spG_len h) fun cdv A outer s H vs Q E hr h => ⟨tS (P, w) b_put_at, (gss_one (gs_ret (gx_op op_addG do_add (gx_op op_addG do_add (gx_sl (gv 0) gpo_none (gpo_some (gv 1))) (gx_tup (ga_cons (gv 2) ga_nil))) (gx_sl (gv 0) (gpo_some (gx_op op_addG do_add (gv 1) gx_int)) gpo_none)))), fn_run (N := ["row", "place", "thing"]) h⟩
theorem ok_corner_put (T : Txt K mg) : FnOk P w K mg base CX0 3 T.d_corner_put.f T.d_corner_put.fd ["web", "rules", "a", "b", "rule"] (spG (P, w) 5 m_corner_put) :=
  T.d_corner_put.F.ok sc_corner_put (fun vs H Q E h => spG_len h) fun cdv A outer s H vs Q E hr h => ⟨tS (P, w) b_corner_put, (gss_cons (gs_asg (gx_call (ok_corner_place T) (hr.mono (by decide)) (by rfl) T.d_corner_place.m T.d_corner_place.F.kp T.d_corner_place.b pass0 (ga_cons (gv 0) (ga_cons (gv 2) (ga_cons (gv 3) ga_nil)))) (gg_tup rfl (ggs_cons (K := K) (b := false) (t1 := [5]) (gg_name (K := K) (i := 5) sc_corner_put.nd rfl (Or.inl rfl)) (ggs_cons (K := K) (b := false) (t1 := [6]) (gg_name (K := K) (i := 6) sc_corner_put.nd rfl (Or.inl rfl)) ggs_nil))))
  (gss_one (gs_ret (gx_tup (ga_cons (gx_call (ok_put_at T) (hr.mono (by decide)) (by rfl) T.d_put_at.m T.d_put_at.F.kp T.d_put_at.b pass0 (ga_cons (gx_ix op_ixG do_ix (gv 1) gx_int (fun _ _ => rfl)) (ga_cons (gv 5) (ga_cons (gx_call (ok_put_at T) (hr.mono (by decide)) (by rfl) T.d_put_at.m T.d_put_at.F.kp T.d_put_at.b pass0 (ga_cons (gx_ix op_ixG do_ix (gx_ix op_ixG do_ix (gv 1) gx_int (fun _ _ => rfl)) (gv 5) (fun _ _ => rfl)) (ga_cons (gv 6) (ga_cons (gv 4) ga_nil)))) ga_nil)))) (ga_cons (gx_ix op_ixG do_ix (gv 1) gx_int (fun _ _ => rfl)) ga_nil)))))), fn_run (N := ["web", "rules", "a", "b", "rule", "place", "corner"]) h⟩
theorem ok_swing_put (T : Txt K mg) : FnOk P w K mg base CX0 4 T.d_swing_put.f T.d_swing_put.fd ["web", "rules", "a", "b", "low", "high"] (spG (P, w) 6 m_swing_put) :=
  T.d_swing_put.F.ok sc_swing_put (fun vs H Q E h => spG_len h) fun cdv A outer s H vs Q E hr h => ⟨tS (P, w) b_swing_put, (gss_cons (gs_set (i := 6) sc_swing_put.nd rfl (Or.inl rfl) (gx_call (ok_link_place T) (hr.mono (by decide)) (by rfl) T.d_link_place.m T.d_link_place.F.kp T.d_link_place.b pass0 (ga_cons (gv 0) (ga_cons (gv 2) (ga_cons (gv 3) ga_nil)))))
  (gss_cons (gs_set (i := 7) sc_swing_put.nd rfl (Or.inl rfl) (gx_op op_addG do_add (gx_call (ok_turned_bounds T) (hr.mono (by decide)) (by rfl) T.d_turned_bounds.m T.d_turned_bounds.F.kp T.d_turned_bounds.b pass0 (ga_cons (gv 4) (ga_cons (gv 5) (ga_cons (gv 2) (ga_cons (gv 3) ga_nil))))) (gx_tup (ga_cons (gx_ix op_ixG do_ix (gx_ix op_ixG do_ix (gx_ix op_ixG do_ix (gv 1) gx_int (fun _ _ => rfl)) (gv 6) (fun _ _ => rfl)) gx_int (fun _ _ => rfl)) ga_nil))))
  (gss_one (gs_ret (gx_tup (ga_cons (gx_ix op_ixG do_ix (gv 1) gx_int (fun _ _ => rfl)) (ga_cons (gx_call (ok_put_at T) (hr.mono (by decide)) (by rfl) T.d_put_at.m T.d_put_at.F.kp T.d_put_at.b pass0 (ga_cons (gx_ix op_ixG do_ix (gv 1) gx_int (fun _ _ => rfl)) (ga_cons (gv 6) (ga_cons (gv 7) ga_nil)))) ga_nil))))))), fn_run (N := ["web", "rules", "a", "b", "low", "high", "place", "rule"]) h⟩
theorem ok_rule_of (T : Txt K mg) : FnOk P w K mg base CX0 5 T.d_rule_of.f T.d_rule_of.fd ["web", "rules", "claim"] (spG (P, w) 3 m_rule_of) :=
  T.d_rule_of.F.ok sc_rule_of (fun vs H Q E h => spG_len h) fun cdv A outer s H vs Q E hr h => ⟨tS (P, w) b_rule_of, (gss_cons (gs_asg (gv 2) (gg_tup rfl (ggs_cons (K := K) (b := false) (t1 := [3]) (gg_name (K := K) (i := 3) sc_rule_of.nd rfl (Or.inl rfl)) (ggs_cons (K := K) (b := false) (t1 := [4]) (gg_name (K := K) (i := 4) sc_rule_of.nd rfl (Or.inl rfl)) (ggs_cons (K := K) (b := false) (t1 := [5]) (gg_name (K := K) (i := 5) sc_rule_of.nd rfl (Or.inl rfl)) (ggs_cons (K := K) (b := false) (t1 := [6]) (gg_name (K := K) (i := 6) sc_rule_of.nd rfl (Or.inl rfl)) (ggs_cons (K := K) (b := false) (t1 := [6]) (gg_name (K := K) (i := 6) sc_rule_of.nd rfl (Or.inl rfl)) ggs_nil)))))))
  (gss_one (gs_ret (gx_ifE (gt_cmp (op_eqG hr.units) do_eq (gv 3) gx_str (nomark _)) (gx_call (ok_corner_rule T) (hr.mono (by decide)) (by rfl) T.d_corner_rule.m T.d_corner_rule.F.kp T.d_corner_rule.b pass0 (ga_cons (gv 0) (ga_cons (gv 1) (ga_cons (gv 4) (ga_cons (gv 5) ga_nil))))) (gx_call (ok_swing_rule T) (hr.mono (by decide)) (by rfl) T.d_swing_rule.m T.d_swing_rule.F.kp T.d_swing_rule.b pass0 (ga_cons (gv 0) (ga_cons (gv 1) (ga_cons (gv 4) (ga_cons (gv 5) ga_nil))))))))), fn_run (N := ["web", "rules", "claim", "kind", "a", "b", "_"]) h⟩
theorem ok_narrowed (T : Txt K mg) : FnOk P w K mg base CX0 6 T.d_narrowed.f T.d_narrowed.fd ["web", "rules", "claim", "low", "high"] (spG (P, w) 5 m_narrowed) :=
  T.d_narrowed.F.ok sc_narrowed (fun vs H Q E h => spG_len h) fun cdv A outer s H vs Q E hr h => ⟨tS (P, w) b_narrowed, (gss_cons (gs_asg (gv 2) (gg_tup rfl (ggs_cons (K := K) (b := false) (t1 := [5]) (gg_name (K := K) (i := 5) sc_narrowed.nd rfl (Or.inl rfl)) (ggs_cons (K := K) (b := false) (t1 := [6]) (gg_name (K := K) (i := 6) sc_narrowed.nd rfl (Or.inl rfl)) (ggs_cons (K := K) (b := false) (t1 := [7]) (gg_name (K := K) (i := 7) sc_narrowed.nd rfl (Or.inl rfl)) (ggs_cons (K := K) (b := false) (t1 := [8]) (gg_name (K := K) (i := 8) sc_narrowed.nd rfl (Or.inl rfl)) (ggs_cons (K := K) (b := false) (t1 := [8]) (gg_name (K := K) (i := 8) sc_narrowed.nd rfl (Or.inl rfl)) ggs_nil)))))))
  (gss_cons (gs_asg (gx_call (ok_rule_of T) (hr.mono (by decide)) (by rfl) T.d_rule_of.m T.d_rule_of.F.kp T.d_rule_of.b pass0 (ga_cons (gv 0) (ga_cons (gv 1) (ga_cons (gv 2) ga_nil)))) (gg_tup rfl (ggs_cons (K := K) (b := false) (t1 := [9]) (gg_name (K := K) (i := 9) sc_narrowed.nd rfl (Or.inl rfl)) (ggs_cons (K := K) (b := false) (t1 := [10]) (gg_name (K := K) (i := 10) sc_narrowed.nd rfl (Or.inl rfl)) ggs_nil))))
  (gss_cons (gs_par (i := 3) (j := 4) rfl sc_narrowed.nd rfl rfl (by decide) rfl rfl (ga_cons (gx_callB dc_max (op_maxG rfl hr.units) (by rfl) T.n_max (by decide +kernel) (ga_cons (gv 3) (ga_cons (gv 9) ga_nil))) (ga_cons (gx_callB dc_min (op_minG rfl hr.units) (by rfl) T.n_min (by decide +kernel) (ga_cons (gv 4) (ga_cons (gv 10) ga_nil))) ga_nil)) (by rfl))
  (gss_cons (gs_if (gt_cmp op_gtG do_gt (gv 3) (gv 4) (nomark _))
    (gss_one (gs_ret gx_non))
    gss_nil)
  (gss_cons (gs_if (gt_cmp (op_eqG hr.units) do_eq (gv 5) gx_str (nomark _))
    (gss_one (gs_ret (gx_call (ok_corner_put T) (hr.mono (by decide)) (by rfl) T.d_corner_put.m T.d_corner_put.F.kp T.d_corner_put.b pass0 (ga_cons (gv 0) (ga_cons (gv 1) (ga_cons (gv 6) (ga_cons (gv 7) (ga_cons (gx_tup (ga_cons (gv 3) (ga_cons (gv 4) ga_nil))) ga_nil))))))))
    gss_nil)
  (gss_one (gs_ret (gx_call (ok_swing_put T) (hr.mono (by decide)) (by rfl) T.d_swing_put.m T.d_swing_put.F.kp T.d_swing_put.b pass0 (ga_cons (gv 0) (ga_cons (gv 1) (ga_cons (gv 6) (ga_cons (gv 7) (ga_cons (gv 3) (ga_cons (gv 4) ga_nil)))))))))))))), fn_run (N := ["web", "rules", "claim", "low", "high", "kind", "a", "b", "_", "least", "most"]) h⟩
theorem ok_claim_narrowed (T : Txt K mg) : FnOk P w K mg base CX0 7 T.d_claim_narrowed.f T.d_claim_narrowed.fd ["web", "rules", "claim"] (spG (P, w) 3 m_claim_narrowed) :=
  T.d_claim_narrowed.F.ok sc_claim_narrowed (fun vs H Q E h => spG_len h) fun cdv A outer s H vs Q E hr h => ⟨tS (P, w) b_claim_narrowed, (gss_one (gs_ret (gx_call (ok_narrowed T) (hr.mono (by decide)) (by rfl) T.d_narrowed.m T.d_narrowed.F.kp T.d_narrowed.b pass0 (ga_cons (gv 0) (ga_cons (gv 1) (ga_cons (gv 2) (ga_cons (gx_ix op_ixG do_ix (gv 2) gx_int (fun _ _ => rfl)) (ga_cons (gx_ix op_ixG do_ix (gv 2) gx_int (fun _ _ => rfl)) ga_nil)))))))), fn_run (N := ["web", "rules", "claim"]) h⟩
theorem ok_ask_list (T : Txt K mg) : FnOk P w K mg base CX0 1 T.d_ask_list.f T.d_ask_list.fd ["ask", "rows"] (spG (P, w) 2 m_ask_list) :=
  T.d_ask_list.F.ok sc_ask_list (fun vs H Q E h => spG_len h) fun cdv A outer s H vs Q E hr h => ⟨tS (P, w) b_ask_list, (gss_one (gs_ret (gx_lc (tv := [2]) (own := [("rules", 2)]) rfl sc_ask_list.nd (gi_seq (gv 1)) (blkOk_by (own := [("rules", 2)]) (N := ["ask", "rows", "rules"]) (sc := defScope s_ask_list) (by decide +kernel)) (fun _ _ _ _ _ => by refine (gg_name (K := K) (i := 2) ?_ ?_ ?_); (exact sc_ask_list.nd); (exact rfl); (exact (Or.inl rfl))) (fun _ _ _ _ _ => by refine (gpts_one ?_); (refine (gt_pc ?_); (refine (gc_notN ?_); (exact (gv 2))))) (fun _ _ _ _ _ => by refine (gx_tup ?_); (refine (ga_cons ?_ ?_); (refine (gx_ix op_ixG do_ix ?_ gx_int (fun _ _ => rfl)); (exact (gv 0))); (refine (ga_cons ?_ ?_); (exact (gv 2)); (refine (ga_cons ?_ ga_nil); (refine (gx_ix op_ixG do_ix ?_ gx_int (fun _ _ => rfl)); (exact (gv 0)))))))))), fn_run (N := ["ask", "rows", "rules"]) h⟩
theorem ok_case_list (T : Txt K mg) : FnOk P w K mg base CX0 8 T.d_case_list.f T.d_case_list.fd ["ask", "claim"] (spG (P, w) 2 m_case_list) :=
  T.d_case_list.F.ok sc_case_list (fun vs H Q E h => spG_len h) fun cdv A outer s H vs Q E hr h => ⟨tS (P, w) b_case_list, (gss_one (gs_ret (gx_call (ok_ask_list T) (hr.mono (by decide)) (by rfl) T.d_ask_list.m T.d_ask_list.F.kp T.d_ask_list.b pass0 (ga_cons (gv 0) (ga_cons (gx_lst (ga_cons (gx_call (ok_claim_narrowed T) (hr.mono (by decide)) (by rfl) T.d_claim_narrowed.m T.d_claim_narrowed.F.kp T.d_claim_narrowed.b pass0 (ga_cons (gx_ix op_ixG do_ix (gv 0) gx_int (fun _ _ => rfl)) (ga_cons (gx_ix op_ixG do_ix (gv 0) gx_int (fun _ _ => rfl)) (ga_cons (gv 1) ga_nil)))) ga_nil)) ga_nil))))), fn_run (N := ["ask", "claim"]) h⟩
theorem ok_denial_list (T : Txt K mg) : FnOk P w K mg base CX0 7 T.d_denial_list.f T.d_denial_list.fd ["ask", "claim"] (spG (P, w) 2 m_denial_list) :=
  T.d_denial_list.F.ok sc_denial_list (fun vs H Q E h => spG_len h) fun cdv A outer s H vs Q E hr h => ⟨tS (P, w) b_denial_list, (gss_cons (gs_set (i := 2) sc_denial_list.nd rfl (Or.inl rfl) (gx_call (ok_narrowed T) (hr.mono (by decide)) (by rfl) T.d_narrowed.m T.d_narrowed.F.kp T.d_narrowed.b pass0 (ga_cons (gx_ix op_ixG do_ix (gv 0) gx_int (fun _ _ => rfl)) (ga_cons (gx_ix op_ixG do_ix (gv 0) gx_int (fun _ _ => rfl)) (ga_cons (gv 1) (ga_cons (gx_un un_neg du_neg (gx_globI (by rfl) T.g_SWING_MOST.choose_spec)) (ga_cons (gx_op op_sub do_sub (gx_ix op_ixG do_ix (gv 1) gx_int (fun _ _ => rfl)) gx_int) ga_nil)))))))
  (gss_one (gs_ret (gx_call (ok_ask_list T) (hr.mono (by decide)) (by rfl) T.d_ask_list.m T.d_ask_list.F.kp T.d_ask_list.b pass0 (ga_cons (gv 0) (ga_cons (gx_lst (ga_cons (gv 2) (ga_cons (gx_call (ok_narrowed T) (hr.mono (by decide)) (by rfl) T.d_narrowed.m T.d_narrowed.F.kp T.d_narrowed.b pass0 (ga_cons (gx_ix op_ixG do_ix (gv 0) gx_int (fun _ _ => rfl)) (ga_cons (gx_ix op_ixG do_ix (gv 0) gx_int (fun _ _ => rfl)) (ga_cons (gv 1) (ga_cons (gx_op op_addG do_add (gx_ix op_ixG do_ix (gv 1) gx_int (fun _ _ => rfl)) gx_int) (ga_cons (gx_globI (by rfl) T.g_SWING_MOST.choose_spec) ga_nil)))))) ga_nil))) ga_nil)))))), fn_run (N := ["ask", "claim", "below"]) h⟩
theorem ok_cases_of (T : Txt K mg) : FnOk P w K mg base CX0 9 T.d_cases_of.f T.d_cases_of.fd ["ask", "claim"] (spG (P, w) 2 m_cases_of) :=
  T.d_cases_of.F.ok sc_cases_of (fun vs H Q E h => spG_len h) fun cdv A outer s H vs Q E hr h => ⟨tS (P, w) b_cases_of, (gss_one (gs_ret (gx_callTy dc_tuple op_tupG (by rfl) T.n_tuple (by decide +kernel) (ga_cons (gx_call (ok_case_list T) (hr.mono (by decide)) (by rfl) T.d_case_list.m T.d_case_list.F.kp T.d_case_list.b pass0 (ga_cons (gv 0) (ga_cons (gv 1) ga_nil))) ga_nil)))), fn_run (N := ["ask", "claim"]) h⟩
theorem ok_denial_cases (T : Txt K mg) : FnOk P w K mg base CX0 8 T.d_denial_cases.f T.d_denial_cases.fd ["ask", "claim"] (spG (P, w) 2 m_denial_cases) :=
  T.d_denial_cases.F.ok sc_denial_cases (fun vs H Q E h => spG_len h) fun cdv A outer s H vs Q E hr h => ⟨tS (P, w) b_denial_cases, (gss_one (gs_ret (gx_callTy dc_tuple op_tupG (by rfl) T.n_tuple (by decide +kernel) (ga_cons (gx_call (ok_denial_list T) (hr.mono (by decide)) (by rfl) T.d_denial_list.m T.d_denial_list.F.kp T.d_denial_list.b pass0 (ga_cons (gv 0) (ga_cons (gv 1) ga_nil))) ga_nil)))), fn_run (N := ["ask", "claim"]) h⟩
theorem ok_law_links (T : Txt K mg) : FnOk P w K mg base CX0 1 T.d_law_links.f T.d_law_links.fd ["web"] (spG (P, w) 1 m_law_links) :=
  T.d_law_links.F.ok sc_law_links (fun vs H Q E h => spG_len h) fun cdv A outer s H vs Q E hr h => ⟨tS (P, w) b_law_links, (gss_cons (gs_set (i := 1) sc_law_links.nd rfl (Or.inl rfl) (gx_lst ga_nil))
  (gss_cons (gs_for PassesOwn.never rfl (gi_seq (gx_ix op_ixG do_ix (gv 0) gx_int (fun _ _ => rfl))) (gg_tup rfl (ggs_cons (K := K) (b := false) (t1 := [2]) (gg_name (K := K) (i := 2) sc_law_links.nd rfl (Or.inr rfl)) (ggs_cons (K := K) (b := false) (t1 := [3]) (gg_name (K := K) (i := 3) sc_law_links.nd rfl (Or.inl rfl)) ggs_nil)))
    (gss_one (gs_set (i := 1) sc_law_links.nd rfl (Or.inl rfl) (gx_op op_addG do_add (gv 1) (gx_lc (tv := [4]) (own := [("other", 4)]) rfl sc_law_links.nd (gi_seq (gx_callB dc_sorted (cr_sortD hr.units) (by rfl) T.n_sorted (by decide +kernel) (ga_cons (gv 3) ga_nil))) (blkOk_by (own := [("other", 4)]) (N := ["web", "links", "name", "ways", "other"]) (sc := defScope s_law_links) (by decide +kernel)) (fun _ _ _ _ _ => by refine (gg_name (K := K) (i := 4) ?_ ?_ ?_); (exact sc_law_links.nd); (exact rfl); (exact (Or.inl rfl))) (fun _ _ _ _ _ => by refine (gpts_one ?_); (refine (gt_cmp op_ltG do_lt ?_ ?_ (nomark _)); (exact (gv 2)); (exact (gv 4)))) (fun _ _ _ _ _ => by refine (gx_tup ?_); (refine (ga_cons ?_ ?_); (exact (gv 2)); (refine (ga_cons ?_ ga_nil); (exact (gv 4))))))))))
  (gss_one (gs_ret (gv 1))))), fn_run (N := ["web", "links", "name", "ways", "other"]) h⟩
theorem ok_law_faces (T : Txt K mg) : FnOk P w K mg base CX0 1 T.d_law_faces.f T.d_law_faces.fd ["web"] (spG (P, w) 1 m_law_faces) :=
  T.d_law_faces.F.ok sc_law_faces (fun vs H Q E h => spG_len h) fun cdv A outer s H vs Q E hr h => ⟨tS (P, w) b_law_faces, (gss_cons (gs_setO (i := 1) sc_law_faces.nd rfl (Or.inl rfl) gx_dnewK)
  (gss_cons (gs_for PassesOwn.never rfl (gi_seq (gx_ix op_ixG do_ix (gv 0) gx_int (fun _ _ => rfl))) (gg_tup rfl (ggs_cons (K := K) (b := false) (t1 := [2]) (gg_name (K := K) (i := 2) sc_law_faces.nd rfl (Or.inl rfl)) (ggs_cons (K := K) (b := false) (t1 := [3]) (gg_name (K := K) (i := 3) sc_law_faces.nd rfl (Or.inl rfl)) ggs_nil)))
    (gss_one (gput 1 (u65 hr) (gv 2) (gv 3))))
  (gss_cons (gs_setO (i := 4) sc_law_faces.nd rfl (Or.inl rfl) gx_dnewN)
  (gss_cons (gs_setO (i := 5) sc_law_faces.nd rfl (Or.inl rfl) (gx_lst ga_nil))
  (gss_cons (gs_for PassesOwn.never rfl (gi_seq (gx_ix op_ixG do_ix (gv 0) gx_int (fun _ _ => rfl))) (gg_tup rfl (ggs_cons (K := K) (b := false) (t1 := [2]) (gg_name (K := K) (i := 2) sc_law_faces.nd rfl (Or.inl rfl)) (ggs_cons (K := K) (b := false) (t1 := [3]) (gg_name (K := K) (i := 3) sc_law_faces.nd rfl (Or.inl rfl)) ggs_nil)))
    (gss_one (gs_for PassesOwn.never rfl (gi_seq (gx_callB dc_sorted (cr_sortD hr.units) (by rfl) T.n_sorted (by decide +kernel) (ga_cons (gv 3) ga_nil))) (gg_name (K := K) (i := 6) sc_law_faces.nd rfl (Or.inl rfl))
    (gss_cons (gs_set (i := 7) sc_law_faces.nd rfl (Or.inl rfl) (gx_tup (ga_cons (gv 2) (ga_cons (gv 6) ga_nil))))
  (gss_cons (gs_setO (i := 8) sc_law_faces.nd rfl (Or.inl rfl) (gx_lst ga_nil))
  (gss_cons (gs_while FUEL PassesOwn.never (gt_pc (gc_dnotin (u65 hr) (gv 7) (gv 4)))
    (gss_cons (gput 4 (u65 hr) (gv 7) gx_bl)
  (gss_cons (gs_expr (gmeth 8 PySem.F.plainAttrs_list PySem.F.slot_list_append PySem.F.type_list_append ms_append (ga_cons (gv 7) ga_nil)))
  (gss_cons (gs_set (i := 9) sc_law_faces.nd rfl (Or.inl rfl) (gx_dget (u65 hr) (gv 1) (gx_ix op_ixG do_ix (gv 7) gx_int (fun _ _ => rfl)) (fun _ _ => rfl)))
  (gss_one (gs_set (i := 7) sc_law_faces.nd rfl (Or.inl rfl) (gx_tup (ga_cons (gx_ix op_ixG do_ix (gv 7) gx_int (fun _ _ => rfl)) (ga_cons (gx_ix op_ixG do_ix (gv 9) (gx_op op_mod do_mod (gx_callTy dc_int call_int1 (by rfl) T.n_int (by decide +kernel) (ga_cons (gx_op op_addG do_add (gx_idx (u65 hr) (gv 9) (gx_ix op_ixG do_ix (gv 7) gx_int (fun _ _ => rfl))) gx_int) ga_nil)) (gx_callB dc_len (op_lenG rfl) (by rfl) T.n_len (by decide +kernel) (ga_cons (gv 9) ga_nil))) (fun _ _ => rfl)) ga_nil)))))))))
  (gss_one (gs_if (gt_cmp op_gtG do_gt (gx_callB dc_len (op_lenG rfl) (by rfl) T.n_len (by decide +kernel) (ga_cons (gv 8) ga_nil)) gx_int (nomark _))
    (gss_cons (gs_set (i := 10) sc_law_faces.nd rfl (Or.inl rfl) (gx_idx (u65 hr) (gv 8) (gx_callB dc_min (op_minG rfl hr.units) (by rfl) T.n_min (by decide +kernel) (ga_cons (gv 8) ga_nil))))
  (gss_one (gs_expr (gmeth 5 PySem.F.plainAttrs_list PySem.F.slot_list_append PySem.F.type_list_append ms_append (ga_cons (gx_callTy dc_tuple op_tupG (by rfl) T.n_tuple (by decide +kernel) (ga_cons (gx_op op_addG do_add (gx_sl (gv 8) (gpo_some (gv 10)) gpo_none) (gx_sl (gv 8) gpo_none (gpo_some (gv 10)))) ga_nil)) ga_nil)))))
    gss_nil))))))))
  (gss_one (gs_ret (gx_callB dc_sorted (cr_sortD hr.units) (by rfl) T.n_sorted (by decide +kernel) (ga_cons (gv 5) ga_nil))))))))), fn_run (N := ["web", "table", "name", "ways", "done", "faces", "other", "dart", "walk", "row", "at"]) h⟩
theorem ok_law_sides (T : Txt K mg) : FnOk P w K mg base CX0 1 T.d_law_sides.f T.d_law_sides.fd ["faces"] (spG (P, w) 1 m_law_sides) :=
  T.d_law_sides.F.ok sc_law_sides (fun vs H Q E h => spG_len h) fun cdv A outer s H vs Q E hr h => ⟨tS (P, w) b_law_sides, (gss_cons (gs_setO (i := 1) sc_law_sides.nd rfl (Or.inl rfl) gx_dnewN)
  (gss_cons (gs_for PassesOwn.never rfl (gi_range1 (by rfl) T.n_range (ga_cons (gx_callB dc_len (op_lenG rfl) (by rfl) T.n_len (by decide +kernel) (ga_cons (gv 0) ga_nil)) ga_nil)) (gg_name (K := K) (i := 2) sc_law_sides.nd rfl (Or.inl rfl))
    (gss_one (gs_for PassesOwn.never rfl (gi_seq (gx_ix op_ixG do_ix (gv 0) (gv 2) (fun _ _ => rfl))) (gg_name (K := K) (i := 3) sc_law_sides.nd rfl (Or.inl rfl))
    (gss_one (gput 1 (u65 hr) (gv 3) (gv 2))))))
  (gss_one (gs_retO (gv 1))))), fn_run (N := ["faces", "sides", "k", "dart"]) h⟩
theorem ok_law_word (T : Txt K mg) : FnOk P w K mg base CX0 2 T.d_law_word.f T.d_law_word.fd ["pool", "at"] (spG (P, w) 2 m_law_word) :=
  T.d_law_word.F.ok sc_law_word (fun vs H Q E h => spG_len h) fun cdv A outer s H vs Q E hr h => ⟨tS (P, w) b_law_word, (gss_cons (gs_set (i := 2) sc_law_word.nd rfl (Or.inl rfl) gx_str)
  (gss_cons (gs_set (i := 3) sc_law_word.nd rfl (Or.inl rfl) (gx_ix op_ixG do_ix (gv 2) (gx_call (ok_law_take T) (hr.mono (by decide)) (by rfl) T.d_law_take.m T.d_law_take.F.kp T.d_law_take.b pass0 (ga_cons (gv 0) (ga_cons gx_int ga_nil))) (fun _ _ => rfl)))
  (gss_cons (gs_if (gt_cmp (op_eqG hr.units) do_eq (gx_call (ok_law_take T) (hr.mono (by decide)) (by rfl) T.d_law_take.m T.d_law_take.F.kp T.d_law_take.b pass0 (ga_cons (gv 0) (ga_cons gx_int ga_nil))) gx_int (nomark _))
    (gss_one (gs_ret (gx_op op_addG do_add (gx_op op_addG do_add (gx_op op_addG do_add (gv 3) (gx_ix op_ixG do_ix (gv 2) (gx_call (ok_law_take T) (hr.mono (by decide)) (by rfl) T.d_law_take.m T.d_law_take.F.kp T.d_law_take.b pass0 (ga_cons (gv 0) (ga_cons gx_int ga_nil))) (fun _ _ => rfl))) (gx_callTy dc_str call_str_int (by rfl) T.n_str (by decide +kernel) (ga_cons (gv 1) ga_nil))) gx_str)))
    gss_nil)
  (gss_one (gs_ret (gx_op op_addG do_add (gv 3) (gx_callTy dc_str call_str_int (by rfl) T.n_str (by decide +kernel) (ga_cons (gv 1) ga_nil)))))))), fn_run (N := ["pool", "at", "letters", "word"]) h⟩
theorem ok_law_named (T : Txt K mg) : FnOk P w K mg base CX0 2 T.d_law_named.f T.d_law_named.fd ["pool", "table", "words"] (spG (P, w) 3 m_law_named) :=
  T.d_law_named.F.ok sc_law_named (fun vs H Q E h => spG_len h) fun cdv A outer s H vs Q E hr h => ⟨tS (P, w) b_law_named, (gss_cons (gs_setO (i := 3) sc_law_named.nd rfl (Or.inr rfl) gx_dnewK)
  (gss_cons (gs_for PassesOwn.never rfl (gi_seq (gx_callB dc_sorted (cr_sortD hr.units) (by rfl) T.n_sorted (by decide +kernel) (ga_cons (gx_callTy dc_list (op_listG rfl rfl) (by rfl) T.n_list (by decide +kernel) (ga_cons (gv 1) ga_nil)) ga_nil))) (gg_name (K := K) (i := 4) sc_law_named.nd rfl (Or.inl rfl))
    (gss_cons (gs_setLc (i := 5) (tv := [6]) (own := [("other", 6)]) rfl sc_law_named.nd rfl rfl (sw_true rfl rfl rfl (by decide +kernel)) (gi_seq (gx_dget (u65 hr) (gv 1) (gv 4) (fun _ _ => rfl))) (blkOk_by (own := [("other", 6)]) (N := ["pool", "table", "words", "ways", "spot", "row", "other", "at", "web", "name", "faces"]) (sc := defScope s_law_named) (by decide +kernel)) (fun _ _ _ _ _ => by refine (gg_name (K := K) (i := 6) ?_ ?_ ?_); (exact sc_law_named.nd); (exact rfl); (exact (Or.inl rfl))) (fun _ _ _ _ _ => by exact gpts_nil) (fun _ _ _ _ _ => by refine (gx_dget (u65 hr) ?_ ?_ (fun _ _ => rfl)); (exact (gv 2)); (exact (gv 6))))
  (gss_frz 5 (gss_cons (gs_set (i := 7) sc_law_named.nd rfl (Or.inl rfl) (gx_idx (u65 hr) (gv 5) (gx_callB dc_min (op_minG rfl hr.units) (by rfl) T.n_min (by decide +kernel) (ga_cons (gv 5) ga_nil))))
  (gss_one (gput 3 (u65 hr) (gx_dget (u65 hr) (gv 2) (gv 4) (fun _ _ => rfl)) (gx_callTy dc_tuple op_tupG (by rfl) T.n_tuple (by decide +kernel) (ga_cons (gx_op op_addG do_add (gx_sl (gv 5) (gpo_some (gv 7)) gpo_none) (gx_sl (gv 5) gpo_none (gpo_some (gv 7)))) ga_nil))))))))
  (gss_cons (gs_set (i := 8) sc_law_named.nd rfl (Or.inl rfl) (gx_tup (ga_cons (gx_callTy dc_tuple op_tupG (by rfl) T.n_tuple (by decide +kernel) (ga_cons (gx_lc (tv := [9]) (own := [("name", 9)]) rfl sc_law_named.nd (gi_seq (gx_callB dc_sorted (cr_sortD hr.units) (by rfl) T.n_sorted (by decide +kernel) (ga_cons (gx_callTy dc_list (op_listG rfl rfl) (by rfl) T.n_list (by decide +kernel) (ga_cons (gv 3) ga_nil)) ga_nil))) (blkOk_by (own := [("name", 9)]) (N := ["pool", "table", "words", "ways", "spot", "row", "other", "at", "web", "name", "faces"]) (sc := defScope s_law_named) (by decide +kernel)) (fun _ _ _ _ _ => by refine (gg_name (K := K) (i := 9) ?_ ?_ ?_); (exact sc_law_named.nd); (exact rfl); (exact (Or.inl rfl))) (fun _ _ _ _ _ => by exact gpts_nil) (fun _ _ _ _ _ => by refine (gx_tup ?_); (refine (ga_cons ?_ ?_); (exact (gv 9)); (refine (ga_cons ?_ ga_nil); (refine (gx_dget (u65 hr) ?_ ?_ (fun _ _ => rfl)); (exact (gv 3)); (exact (gv 9))))))) ga_nil)) (ga_cons (gx_tup (ga_cons gx_str (ga_cons gx_str ga_nil))) ga_nil))))
  (gss_cons (gs_set (i := 10) sc_law_named.nd rfl (Or.inl rfl) (gx_call (ok_law_faces T) (hr.mono (by decide)) (by rfl) T.d_law_faces.m T.d_law_faces.F.kp T.d_law_faces.b pass0 (ga_cons (gv 8) ga_nil)))
  (gss_one (gs_ret (gx_tup (ga_cons (gx_ix op_ixG do_ix (gv 8) gx_int (fun _ _ => rfl)) (ga_cons (gx_ix op_ixG do_ix (gx_ix op_ixG do_ix (gv 10) (gx_call (ok_law_take T) (hr.mono (by decide)) (by rfl) T.d_law_take.m T.d_law_take.F.kp T.d_law_take.b pass0 (ga_cons (gv 0) (ga_cons (gx_callB dc_len (op_lenG rfl) (by rfl) T.n_len (by decide +kernel) (ga_cons (gv 10) ga_nil)) ga_nil))) (fun _ _ => rfl)) gx_int (fun _ _ => rfl)) ga_nil))))))))), fn_run (N := ["pool", "table", "words", "ways", "spot", "row", "other", "at", "web", "name", "faces"]) h⟩
theorem ok_law_grid (T : Txt K mg) : FnOk P w K mg base CX0 2 T.d_law_grid.f T.d_law_grid.fd ["pool", "wide", "high", "most"] (spG (P, w) 4 m_law_grid) :=
  T.d_law_grid.F.ok sc_law_grid (fun vs H Q E h => spG_len h) fun cdv A outer s H vs Q E hr h => ⟨tS (P, w) b_law_grid, (gss_cons (gs_setO (i := 4) sc_law_grid.nd rfl (Or.inl rfl) (gx_lst (ga_cons (gx_tup (ga_cons (gx_call (ok_law_take T) (hr.mono (by decide)) (by rfl) T.d_law_take.m T.d_law_take.F.kp T.d_law_take.b pass0 (ga_cons (gv 0) (ga_cons (gv 1) ga_nil))) (ga_cons (gx_call (ok_law_take T) (hr.mono (by decide)) (by rfl) T.d_law_take.m T.d_law_take.F.kp T.d_law_take.b pass0 (ga_cons (gv 0) (ga_cons (gv 2) ga_nil))) ga_nil))) ga_nil)))
  (gss_cons (gs_setO (i := 5) sc_law_grid.nd rfl (Or.inr rfl) (gx_lst ga_nil))
  (gss_cons (gs_for PassesOwn.never rfl (gi_range1 (by rfl) T.n_range (ga_cons (gx_op op_mulG do_mul gx_int (gv 3)) ga_nil)) (gg_name (K := K) (i := 6) sc_law_grid.nd rfl (Or.inl rfl))
    (gss_cons (gs_asg (gx_ix op_ixG do_ix (gv 4) (gx_call (ok_law_take T) (hr.mono (by decide)) (by rfl) T.d_law_take.m T.d_law_take.F.kp T.d_law_take.b pass0 (ga_cons (gv 0) (ga_cons (gx_callB dc_len (op_lenG rfl) (by rfl) T.n_len (by decide +kernel) (ga_cons (gv 4) ga_nil)) ga_nil))) (fun _ _ => rfl)) (gg_tup rfl (ggs_cons (K := K) (b := false) (t1 := [7]) (gg_name (K := K) (i := 7) sc_law_grid.nd rfl (Or.inr rfl)) (ggs_cons (K := K) (b := false) (t1 := [8]) (gg_name (K := K) (i := 8) sc_law_grid.nd rfl (Or.inr rfl)) ggs_nil))))
  (gss_cons (gs_asg (gx_ix op_ixG do_ix (gx_lst (ga_cons (gx_tup (ga_cons gx_int (ga_cons gx_int ga_nil))) (ga_cons (gx_tup (ga_cons gx_int (ga_cons gx_int ga_nil))) (ga_cons (gx_tup (ga_cons gx_int (ga_cons (gx_un un_neg du_neg gx_int) ga_nil))) (ga_cons (gx_tup (ga_cons (gx_un un_neg du_neg gx_int) (ga_cons gx_int ga_nil))) ga_nil))))) (gx_call (ok_law_take T) (hr.mono (by decide)) (by rfl) T.d_law_take.m T.d_law_take.F.kp T.d_law_take.b pass0 (ga_cons (gv 0) (ga_cons gx_int ga_nil))) (fun _ _ => rfl)) (gg_tup rfl (ggs_cons (K := K) (b := false) (t1 := [9]) (gg_name (K := K) (i := 9) sc_law_grid.nd rfl (Or.inl rfl)) (ggs_cons (K := K) (b := false) (t1 := [10]) (gg_name (K := K) (i := 10) sc_law_grid.nd rfl (Or.inl rfl)) ggs_nil))))
  (gss_cons (gs_set (i := 11) sc_law_grid.nd rfl (Or.inl rfl) (gx_tup (ga_cons (gx_op op_addG do_add (gv 7) (gv 9)) (ga_cons (gx_op op_addG do_add (gv 8) (gv 10)) ga_nil))))
  (gss_one (gs_if (PW.pt (gw_and (gt_chain op_leG op_ltG do_le do_lt gx_int (gx_ix op_ixG do_ix (gv 11) gx_int (fun _ _ => rfl)) (gv 1)) (gw_and (gt_chain op_leG op_ltG do_le do_lt gx_int (gx_ix op_ixG do_ix (gv 11) gx_int (fun _ _ => rfl)) (gv 2)) (gw_and1 (PW.pt (gw_or (gt_cmp (op_inG (u65 hr)) do_in (gv 11) (gv 4) (by rfl)) (gw_or1 (gt_cmp op_ltG do_lt (gx_callB dc_len (op_lenG rfl) (by rfl) T.n_len (by decide +kernel) (ga_cons (gv 4) ga_nil)) (gv 3) (nomark _)))))))))
    (gss_cons (gs_if (gt_cmp (op_notInG (u65 hr)) do_notIn (gv 11) (gv 4) (by rfl))
    (gss_one (gs_expr (gmeth 4 PySem.F.plainAttrs_list PySem.F.slot_list_append PySem.F.type_list_append ms_append (ga_cons (gv 11) ga_nil))))
    gss_nil)
  (gss_one (gs_if (gt_cmp (op_notInG (u65 hr)) do_notIn (gx_tup (ga_cons (gx_tup (ga_cons (gv 7) (ga_cons (gv 8) ga_nil))) (ga_cons (gv 11) ga_nil))) (gv 5) (by rfl))
    (gss_cons (gs_expr (gmeth 5 PySem.F.plainAttrs_list PySem.F.slot_list_append PySem.F.type_list_append ms_append (ga_cons (gx_tup (ga_cons (gx_tup (ga_cons (gv 7) (ga_cons (gv 8) ga_nil))) (ga_cons (gv 11) ga_nil))) ga_nil)))
  (gss_one (gs_expr (gmeth 5 PySem.F.plainAttrs_list PySem.F.slot_list_append PySem.F.type_list_append ms_append (ga_cons (gx_tup (ga_cons (gv 11) (ga_cons (gx_tup (ga_cons (gv 7) (ga_cons (gv 8) ga_nil))) ga_nil))) ga_nil)))))
    gss_nil)))
    gss_nil))))))
  (gss_cons (gs_if (gt_cmp op_ltG do_lt (gx_callB dc_len (op_lenG rfl) (by rfl) T.n_len (by decide +kernel) (ga_cons (gv 4) ga_nil)) gx_int (nomark _))
    (gss_cons (gs_setO (i := 4) sc_law_grid.nd rfl (Or.inl rfl) (gx_lst (ga_cons (gx_tup (ga_cons gx_int (ga_cons gx_int ga_nil))) (ga_cons (gx_tup (ga_cons gx_int (ga_cons gx_int ga_nil))) ga_nil))))
  (gss_one (gs_setO (i := 5) sc_law_grid.nd rfl (Or.inr rfl) (gx_lst (ga_cons (gx_tup (ga_cons (gx_tup (ga_cons gx_int (ga_cons gx_int ga_nil))) (ga_cons (gx_tup (ga_cons gx_int (ga_cons gx_int ga_nil))) ga_nil))) (ga_cons (gx_tup (ga_cons (gx_tup (ga_cons gx_int (ga_cons gx_int ga_nil))) (ga_cons (gx_tup (ga_cons gx_int (ga_cons gx_int ga_nil))) ga_nil))) ga_nil))))))
    gss_nil)
  (gss_cons (gs_setO (i := 12) sc_law_grid.nd rfl (Or.inl rfl) gx_dnewN)
  (gss_cons (gs_frz 4 (gs_for PassesOwn.never rfl (gi_seq (gv 4)) (gg_tup rfl (ggs_cons (K := K) (b := false) (t1 := [7]) (gg_name (K := K) (i := 7) sc_law_grid.nd rfl (Or.inr rfl)) (ggs_cons (K := K) (b := false) (t1 := [8]) (gg_name (K := K) (i := 8) sc_law_grid.nd rfl (Or.inr rfl)) ggs_nil)))
    (gss_cons (gs_set (i := 13) sc_law_grid.nd rfl (Or.inl rfl) (gx_lst (ga_cons (gx_tup (ga_cons (gv 7) (ga_cons (gx_op op_addG do_add (gv 8) gx_int) ga_nil))) (ga_cons (gx_tup (ga_cons (gx_op op_addG do_add (gv 7) gx_int) (ga_cons (gv 8) ga_nil))) (ga_cons (gx_tup (ga_cons (gv 7) (ga_cons (gx_op op_sub do_sub (gv 8) gx_int) ga_nil))) (ga_cons (gx_tup (ga_cons (gx_op op_sub do_sub (gv 7) gx_int) (ga_cons (gv 8) ga_nil))) ga_nil))))))
  (gss_one (gput 12 (u65 hr) (gx_tup (ga_cons (gv 7) (ga_cons (gv 8) ga_nil))) (gx_lc (tv := [11]) (own := [("other", 11)]) rfl sc_law_grid.nd (gi_seq (gv 13)) (blkOk_by (own := [("other", 11)]) (N := ["pool", "wide", "high", "most", "spots", "links", "lap", "x", "y", "dx", "dy", "other", "table", "near"]) (sc := defScope s_law_grid) (by decide +kernel)) (fun _ _ _ _ _ => by refine (gg_name (K := K) (i := 11) ?_ ?_ ?_); (exact sc_law_grid.nd); (exact rfl); (exact (Or.inl rfl))) (fun _ _ _ _ _ => by refine (gpts_one ?_); (refine (gt_cmp (op_inG (u65 hr)) do_in ?_ ?_ (by rfl)); (refine (gx_tup ?_); (refine (ga_cons ?_ ?_); (refine (gx_tup ?_); (refine (ga_cons ?_ ?_); (exact (gv 7)); (refine (ga_cons ?_ ga_nil); (exact (gv 8))))); (refine (ga_cons ?_ ga_nil); (exact (gv 11))))); (exact (gv 5)))) (fun _ _ _ _ _ => by exact (gv 11))))))))
  (gss_one (gs_retO (gv 12))))))))), fn_run (N := ["pool", "wide", "high", "most", "spots", "links", "lap", "x", "y", "dx", "dy", "other", "table", "near"]) h⟩
theorem ok_law_smoothed (T : Txt K mg) : FnOk P w K mg base CX0 2 T.d_law_smoothed.f T.d_law_smoothed.fd ["pool", "table"] (spG (P, w) 2 m_law_smoothed) :=
  T.d_law_smoothed.F.ok sc_law_smoothed (fun vs H Q E h => spG_len h) fun cdv A outer s H vs Q E hr h => ⟨tS (P, w) b_law_smoothed, (gss_cons (gs_for PassesOwn.never rfl (gi_seq (gx_callB dc_sorted (cr_sortD hr.units) (by rfl) T.n_sorted (by decide +kernel) (ga_cons (gx_callTy dc_list (op_listG rfl rfl) (by rfl) T.n_list (by decide +kernel) (ga_cons (gv 1) ga_nil)) ga_nil))) (gg_name (K := K) (i := 2) sc_law_smoothed.nd rfl (Or.inr rfl))
    (gss_cons (gs_set (i := 3) sc_law_smoothed.nd rfl (Or.inl rfl) (gx_dget (u65 hr) (gv 1) (gv 2) (fun _ _ => rfl)))
  (gss_one (gs_if (PW.pt (gw_and (gt_cmp (op_eqG hr.units) do_eq (gx_callB dc_len (op_lenG rfl) (by rfl) T.n_len (by decide +kernel) (ga_cons (gv 3) ga_nil)) gx_int (nomark _)) (gw_and (gt_cmp (op_notInG (u65 hr)) do_notIn (gx_ix op_ixG do_ix (gv 3) gx_int (fun _ _ => rfl)) (gx_dget (u65 hr) (gv 1) (gx_ix op_ixG do_ix (gv 3) gx_int (fun _ _ => rfl)) (fun _ _ => rfl)) (by rfl)) (gw_and1 (gt_cmp (op_eqG hr.units) do_eq (gx_call (ok_law_take T) (hr.mono (by decide)) (by rfl) T.d_law_take.m T.d_law_take.F.kp T.d_law_take.b pass0 (ga_cons (gv 0) (ga_cons gx_int ga_nil))) gx_int (nomark _))))))
    (gss_cons (gs_asg (gv 3) (gg_tup rfl (ggs_cons (K := K) (b := false) (t1 := [4]) (gg_name (K := K) (i := 4) sc_law_smoothed.nd rfl (Or.inr rfl)) (ggs_cons (K := K) (b := false) (t1 := [5]) (gg_name (K := K) (i := 5) sc_law_smoothed.nd rfl (Or.inr rfl)) ggs_nil))))
  (gss_cons (gput 1 (u65 hr) (gv 4) (gx_lc (tv := [6]) (own := [("near", 6)]) rfl sc_law_smoothed.nd (gi_seq (gx_dget (u65 hr) (gv 1) (gv 4) (fun _ _ => rfl))) (blkOk_by (own := [("near", 6)]) (N := ["pool", "table", "spot", "row", "one", "other", "near"]) (sc := defScope s_law_smoothed) (by decide +kernel)) (fun _ _ _ _ _ => by refine (gg_name (K := K) (i := 6) ?_ ?_ ?_); (exact sc_law_smoothed.nd); (exact rfl); (exact (Or.inl rfl))) (fun _ _ _ _ _ => by exact gpts_nil) (fun _ _ _ _ _ => by refine (gx_ifE ?_ ?_ ?_); (refine (gt_cmp (op_eqG hr.units) do_eq ?_ ?_ (nomark _)); (exact (gv 6)); (exact (gv 2))); (exact (gv 5)); (exact (gv 6)))))
  (gss_cons (gput 1 (u65 hr) (gv 5) (gx_lc (tv := [6]) (own := [("near", 6)]) rfl sc_law_smoothed.nd (gi_seq (gx_dget (u65 hr) (gv 1) (gv 5) (fun _ _ => rfl))) (blkOk_by (own := [("near", 6)]) (N := ["pool", "table", "spot", "row", "one", "other", "near"]) (sc := defScope s_law_smoothed) (by decide +kernel)) (fun _ _ _ _ _ => by refine (gg_name (K := K) (i := 6) ?_ ?_ ?_); (exact sc_law_smoothed.nd); (exact rfl); (exact (Or.inl rfl))) (fun _ _ _ _ _ => by exact gpts_nil) (fun _ _ _ _ _ => by refine (gx_ifE ?_ ?_ ?_); (refine (gt_cmp (op_eqG hr.units) do_eq ?_ ?_ (nomark _)); (exact (gv 6)); (exact (gv 2))); (exact (gv 4)); (exact (gv 6)))))
  (gss_one (gs_expr (gmeth 1 PySem.F.plainAttrs_dict PySem.F.slot_dict_pop PySem.F.type_dict_pop (ms_dpop (u65 hr)) (ga_cons (gv 2) ga_nil)))))))
    gss_nil))))
  (gss_one (gs_retO (gv 1)))), fn_run (N := ["pool", "table", "spot", "row", "one", "other", "near"]) h⟩
theorem ok_law_map (T : Txt K mg) : FnOk P w K mg base CX0 3 T.d_law_map.f T.d_law_map.fd ["pool", "most"] (spG (P, w) 2 m_law_map) :=
  T.d_law_map.F.ok sc_law_map (fun vs H Q E h => spG_len h) fun cdv A outer s H vs Q E hr h => ⟨tS (P, w) b_law_map, (gss_cons (gs_set (i := 2) sc_law_map.nd rfl (Or.inl rfl) (gx_callT (ok_law_smoothed T) (hr.mono (by decide)) (by rfl) T.d_law_smoothed.m T.d_law_smoothed.F.kp T.d_law_smoothed.b pass0 (gv 0) (gx_call (ok_law_grid T) (hr.mono (by decide)) (by rfl) T.d_law_grid.m T.d_law_grid.F.kp T.d_law_grid.b pass0 (ga_cons (gv 0) (ga_cons gx_int (ga_cons gx_int (ga_cons (gv 1) ga_nil)))))))
  (gss_cons (gs_setO (i := 3) sc_law_map.nd rfl (Or.inl rfl) gx_dnewN)
  (gss_cons (gs_for PassesOwn.never rfl (gi_seq (gx_callB dc_sorted (cr_sortD hr.units) (by rfl) T.n_sorted (by decide +kernel) (ga_cons (gx_callTy dc_list (op_listG rfl rfl) (by rfl) T.n_list (by decide +kernel) (ga_cons (gv 2) ga_nil)) ga_nil))) (gg_name (K := K) (i := 4) sc_law_map.nd rfl (Or.inl rfl))
    (gss_one (gput 3 (u65 hr) (gv 4) (gx_call (ok_law_word T) (hr.mono (by decide)) (by rfl) T.d_law_word.m T.d_law_word.F.kp T.d_law_word.b pass0 (ga_cons (gv 0) (ga_cons (gx_callB dc_len (op_lenG rfl) (by rfl) T.n_len (by decide +kernel) (ga_cons (gv 3) ga_nil)) ga_nil))))))
  (gss_one (gs_ret (gx_call (ok_law_named T) (hr.mono (by decide)) (by rfl) T.d_law_named.m T.d_law_named.F.kp T.d_law_named.b pass0 (ga_cons (gv 0) (ga_cons (gv 2) (ga_cons (gv 3) ga_nil))))))))), fn_run (N := ["pool", "most", "table", "words", "spot"]) h⟩
theorem ok_law_free (T : Txt K mg) : FnOk P w K mg base CX0 2 T.d_law_free.f T.d_law_free.fd ["web"] (spG (P, w) 1 m_law_free) :=
  T.d_law_free.F.ok sc_law_free (fun vs H Q E h => spG_len h) fun cdv A outer s H vs Q E hr h => ⟨tS (P, w) b_law_free, (gss_cons (gs_setO (i := 1) sc_law_free.nd rfl (Or.inl rfl) (gx_lst ga_nil))
  (gss_cons (gs_for PassesOwn.never rfl (gi_seq (gx_ix op_ixG do_ix (gv 0) gx_int (fun _ _ => rfl))) (gg_tup rfl (ggs_cons (K := K) (b := false) (t1 := [2]) (gg_name (K := K) (i := 2) sc_law_free.nd rfl (Or.inl rfl)) (ggs_cons (K := K) (b := false) (t1 := [3]) (gg_name (K := K) (i := 3) sc_law_free.nd rfl (Or.inl rfl)) ggs_nil)))
    (gss_one (gs_expr (gmeth 1 PySem.F.plainAttrs_list PySem.F.slot_list_append PySem.F.type_list_append ms_append (ga_cons (gx_callTy dc_tuple op_tupG (by rfl) T.n_tuple (by decide +kernel) (ga_cons (gx_op op_mulG do_mul (gx_lst (ga_cons (gx_tup (ga_cons gx_int (ga_cons gx_int ga_nil))) ga_nil)) (gx_callB dc_len (op_lenG rfl) (by rfl) T.n_len (by decide +kernel) (ga_cons (gv 3) ga_nil))) ga_nil)) ga_nil)))))
  (gss_one (gs_ret (gx_tup (ga_cons (gx_callTy dc_tuple op_tupG (by rfl) T.n_tuple (by decide +kernel) (ga_cons (gv 1) ga_nil)) (ga_cons (gx_callTy dc_tuple op_tupG (by rfl) T.n_tuple (by decide +kernel) (ga_cons (gx_op op_mulG do_mul (gx_lst (ga_cons (gx_tup (ga_cons (gx_un un_neg du_neg gx_int) (ga_cons gx_int (ga_cons gx_int ga_nil)))) ga_nil)) (gx_callB dc_len (op_lenG rfl) (by rfl) T.n_len (by decide +kernel) (ga_cons (gx_call (ok_law_links T) (hr.mono (by decide)) (by rfl) T.d_law_links.m T.d_law_links.F.kp T.d_law_links.b pass0 (ga_cons (gv 0) ga_nil)) ga_nil))) ga_nil)) ga_nil))))))), fn_run (N := ["web", "corners", "name", "ways"]) h⟩
theorem ok_law_rules (T : Txt K mg) : FnOk P w K mg base CX0 2 T.d_law_rules.f T.d_law_rules.fd ["pool", "web"] (spG (P, w) 2 m_law_rules) :=
  T.d_law_rules.F.ok sc_law_rules (fun vs H Q E h => spG_len h) fun cdv A outer s H vs Q E hr h => ⟨tS (P, w) b_law_rules, (gss_cons (gs_setO (i := 2) sc_law_rules.nd rfl (Or.inl rfl) (gx_lst ga_nil))
  (gss_cons (gs_set (i := 3) sc_law_rules.nd rfl (Or.inl rfl) (gx_call (ok_law_take T) (hr.mono (by decide)) (by rfl) T.d_law_take.m T.d_law_take.F.kp T.d_law_take.b pass0 (ga_cons (gv 0) (ga_cons gx_int ga_nil))))
  (gss_cons (gs_for PassesOwn.never rfl (gi_seq (gx_ix op_ixG do_ix (gv 1) gx_int (fun _ _ => rfl))) (gg_tup rfl (ggs_cons (K := K) (b := false) (t1 := [4]) (gg_name (K := K) (i := 4) sc_law_rules.nd rfl (Or.inl rfl)) (ggs_cons (K := K) (b := false) (t1 := [5]) (gg_name (K := K) (i := 5) sc_law_rules.nd rfl (Or.inl rfl)) ggs_nil)))
    (gss_cons (gs_setO (i := 6) sc_law_rules.nd rfl (Or.inl rfl) (gx_lst ga_nil))
  (gss_cons (gs_for PassesOwn.never rfl (gi_seq (gv 5)) (gg_name (K := K) (i := 7) sc_law_rules.nd rfl (Or.inl rfl))
    (gss_cons (gs_set (i := 8) sc_law_rules.nd rfl (Or.inl rfl) gx_int)
  (gss_cons (gs_set (i := 9) sc_law_rules.nd rfl (Or.inl rfl) gx_int)
  (gss_cons (gs_if (gt_cmp op_ltG do_lt (gx_call (ok_law_take T) (hr.mono (by decide)) (by rfl) T.d_law_take.m T.d_law_take.F.kp T.d_law_take.b pass0 (ga_cons (gv 0) (ga_cons gx_int ga_nil))) (gv 3) (nomark _))
    (gss_cons (gs_set (i := 8) sc_law_rules.nd rfl (Or.inl rfl) (gx_ix op_ixG do_ix (gx_lst (ga_cons gx_int (ga_cons gx_int (ga_cons gx_int (ga_cons gx_int (ga_cons gx_int ga_nil)))))) (gx_call (ok_law_take T) (hr.mono (by decide)) (by rfl) T.d_law_take.m T.d_law_take.F.kp T.d_law_take.b pass0 (ga_cons (gv 0) (ga_cons gx_int ga_nil))) (fun _ _ => rfl)))
  (gss_one (gs_set (i := 9) sc_law_rules.nd rfl (Or.inl rfl) (gx_op op_addG do_add (gv 8) (gx_call (ok_law_take T) (hr.mono (by decide)) (by rfl) T.d_law_take.m T.d_law_take.F.kp T.d_law_take.b pass0 (ga_cons (gv 0) (ga_cons (gx_op op_sub do_sub gx_int (gv 8)) ga_nil)))))))
    gss_nil)
  (gss_one (gs_expr (gmeth 6 PySem.F.plainAttrs_list PySem.F.slot_list_append PySem.F.type_list_append ms_append (ga_cons (gx_tup (ga_cons (gv 8) (ga_cons (gv 9) ga_nil))) ga_nil))))))))
  (gss_one (gs_expr (gmeth 2 PySem.F.plainAttrs_list PySem.F.slot_list_append PySem.F.type_list_append ms_append (ga_cons (gx_callTy dc_tuple op_tupG (by rfl) T.n_tuple (by decide +kernel) (ga_cons (gv 6) ga_nil)) ga_nil)))))))
  (gss_cons (gs_setO (i := 10) sc_law_rules.nd rfl (Or.inl rfl) (gx_lst ga_nil))
  (gss_cons (gs_set (i := 11) sc_law_rules.nd rfl (Or.inl rfl) (gx_ix op_ixG do_ix (gx_lst (ga_cons gx_int (ga_cons gx_int (ga_cons gx_int ga_nil)))) (gx_call (ok_law_take T) (hr.mono (by decide)) (by rfl) T.d_law_take.m T.d_law_take.F.kp T.d_law_take.b pass0 (ga_cons (gv 0) (ga_cons gx_int ga_nil))) (fun _ _ => rfl)))
  (gss_cons (gs_for PassesOwn.never rfl (gi_seq (gx_call (ok_law_links T) (hr.mono (by decide)) (by rfl) T.d_law_links.m T.d_law_links.F.kp T.d_law_links.b pass0 (ga_cons (gv 1) ga_nil))) (gg_name (K := K) (i := 12) sc_law_rules.nd rfl (Or.inl rfl))
    (gss_cons (gs_set (i := 8) sc_law_rules.nd rfl (Or.inl rfl) (gx_un un_neg du_neg gx_int))
  (gss_cons (gs_set (i := 9) sc_law_rules.nd rfl (Or.inl rfl) gx_int)
  (gss_cons (gs_if (gt_cmp op_ltG do_lt (gx_call (ok_law_take T) (hr.mono (by decide)) (by rfl) T.d_law_take.m T.d_law_take.F.kp T.d_law_take.b pass0 (ga_cons (gv 0) (ga_cons gx_int ga_nil))) (gv 3) (nomark _))
    (gss_cons (gs_set (i := 8) sc_law_rules.nd rfl (Or.inl rfl) (gx_op op_sub do_sub (gx_call (ok_law_take T) (hr.mono (by decide)) (by rfl) T.d_law_take.m T.d_law_take.F.kp T.d_law_take.b pass0 (ga_cons (gv 0) (ga_cons gx_int ga_nil))) gx_int))
  (gss_one (gs_set (i := 9) sc_law_rules.nd rfl (Or.inl rfl) (gx_op op_addG do_add (gv 8) (gx_call (ok_law_take T) (hr.mono (by decide)) (by rfl) T.d_law_take.m T.d_law_take.F.kp T.d_law_take.b pass0 (ga_cons (gv 0) (ga_cons gx_int ga_nil)))))))
    gss_nil)
  (gss_one (gs_expr (gmeth 10 PySem.F.plainAttrs_list PySem.F.slot_list_append PySem.F.type_list_append ms_append (ga_cons (gx_tup (ga_cons (gv 8) (ga_cons (gv 9) (ga_cons (gx_op op_addG do_add gx_int (gx_call (ok_law_take T) (hr.mono (by decide)) (by rfl) T.d_law_take.m T.d_law_take.F.kp T.d_law_take.b pass0 (ga_cons (gv 0) (ga_cons (gv 11) ga_nil)))) ga_nil)))) ga_nil))))))))
  (gss_one (gs_ret (gx_tup (ga_cons (gx_callTy dc_tuple op_tupG (by rfl) T.n_tuple (by decide +kernel) (ga_cons (gv 2) ga_nil)) (ga_cons (gx_callTy dc_tuple op_tupG (by rfl) T.n_tuple (by decide +kernel) (ga_cons (gv 10) ga_nil)) ga_nil))))))))))), fn_run (N := ["pool", "web", "corners", "tight", "name", "ways", "row", "other", "low", "high", "links", "most", "link"]) h⟩
theorem ok_law_claim (T : Txt K mg) : FnOk P w K mg base CX0 2 T.d_law_claim.f T.d_law_claim.fd ["pool", "web"] (spG (P, w) 2 m_law_claim) :=
  T.d_law_claim.F.ok sc_law_claim (fun vs H Q E h => spG_len h) fun cdv A outer s H vs Q E hr h => ⟨tS (P, w) b_law_claim, (gss_cons (gs_set (i := 2) sc_law_claim.nd rfl (Or.inl rfl) (gx_call (ok_law_sides T) (hr.mono (by decide)) (by rfl) T.d_law_sides.m T.d_law_sides.F.kp T.d_law_sides.b pass0 (ga_cons (gx_call (ok_law_faces T) (hr.mono (by decide)) (by rfl) T.d_law_faces.m T.d_law_faces.F.kp T.d_law_faces.b pass0 (ga_cons (gv 1) ga_nil)) ga_nil)))
  (gss_cons (gs_set (i := 3) sc_law_claim.nd rfl (Or.inl rfl) (gx_callB dc_sorted (cr_sortD hr.units) (by rfl) T.n_sorted (by decide +kernel) (ga_cons (gx_callTy dc_list (op_listG rfl rfl) (by rfl) T.n_list (by decide +kernel) (ga_cons (gv 2) ga_nil)) ga_nil)))
  (gss_cons (gs_asg (gx_ix op_ixG do_ix (gv 3) (gx_call (ok_law_take T) (hr.mono (by decide)) (by rfl) T.d_law_take.m T.d_law_take.F.kp T.d_law_take.b pass0 (ga_cons (gv 0) (ga_cons (gx_callB dc_len (op_lenG rfl) (by rfl) T.n_len (by decide +kernel) (ga_cons (gv 3) ga_nil)) ga_nil))) (fun _ _ => rfl)) (gg_tup rfl (ggs_cons (K := K) (b := false) (t1 := [4]) (gg_name (K := K) (i := 4) sc_law_claim.nd rfl (Or.inl rfl)) (ggs_cons (K := K) (b := false) (t1 := [5]) (gg_name (K := K) (i := 5) sc_law_claim.nd rfl (Or.inl rfl)) ggs_nil))))
  (gss_cons (gs_if (gt_cmp (op_eqG hr.units) do_eq (gx_call (ok_law_take T) (hr.mono (by decide)) (by rfl) T.d_law_take.m T.d_law_take.F.kp T.d_law_take.b pass0 (ga_cons (gv 0) (ga_cons gx_int ga_nil))) gx_int (nomark _))
    (gss_cons (gs_set (i := 6) sc_law_claim.nd rfl (Or.inl rfl) (gx_op op_addG do_add gx_int (gx_call (ok_law_take T) (hr.mono (by decide)) (by rfl) T.d_law_take.m T.d_law_take.F.kp T.d_law_take.b pass0 (ga_cons (gv 0) (ga_cons gx_int ga_nil)))))
  (gss_one (gs_ret (gx_tup (ga_cons gx_str (ga_cons (gv 4) (ga_cons (gv 5) (ga_cons (gv 6) (ga_cons (gx_op op_addG do_add (gv 6) (gx_call (ok_law_take T) (hr.mono (by decide)) (by rfl) T.d_law_take.m T.d_law_take.F.kp T.d_law_take.b pass0 (ga_cons (gv 0) (ga_cons (gx_op op_sub do_sub gx_int (gv 6)) ga_nil)))) ga_nil)))))))))
    gss_nil)
  (gss_cons (gs_set (i := 6) sc_law_claim.nd rfl (Or.inl rfl) (gx_ix op_ixG do_ix (gx_lst (ga_cons gx_int (ga_cons gx_int (ga_cons gx_int (ga_cons (gx_un un_neg du_neg gx_int) (ga_cons (gx_un un_neg du_neg gx_int) (ga_cons gx_int (ga_cons (gx_op op_sub do_sub (gx_call (ok_law_take T) (hr.mono (by decide)) (by rfl) T.d_law_take.m T.d_law_take.F.kp T.d_law_take.b pass0 (ga_cons (gv 0) (ga_cons gx_int ga_nil))) gx_int) ga_nil)))))))) (gx_call (ok_law_take T) (hr.mono (by decide)) (by rfl) T.d_law_take.m T.d_law_take.F.kp T.d_law_take.b pass0 (ga_cons (gv 0) (ga_cons gx_int ga_nil))) (fun _ _ => rfl)))
  (gss_cons (gs_set (i := 7) sc_law_claim.nd rfl (Or.inl rfl) (gx_ix op_ixG do_ix (gx_lst (ga_cons (gv 6) (ga_cons (gv 6) (ga_cons gx_int (ga_cons (gx_op op_addG do_add (gv 6) (gx_call (ok_law_take T) (hr.mono (by decide)) (by rfl) T.d_law_take.m T.d_law_take.F.kp T.d_law_take.b pass0 (ga_cons (gv 0) (ga_cons (gx_op op_sub do_sub gx_int (gv 6)) ga_nil)))) ga_nil))))) (gx_call (ok_law_take T) (hr.mono (by decide)) (by rfl) T.d_law_take.m T.d_law_take.F.kp T.d_law_take.b pass0 (ga_cons (gv 0) (ga_cons gx_int ga_nil))) (fun _ _ => rfl)))
  (gss_one (gs_ret (gx_tup (ga_cons gx_str (ga_cons (gv 4) (ga_cons (gv 5) (ga_cons (gv 6) (ga_cons (gv 7) ga_nil)))))))))))))), fn_run (N := ["pool", "web", "sides", "darts", "one", "other", "low", "high"]) h⟩
theorem ok_law_range (T : Txt K mg) : FnOk P w K mg base CX0 2 T.d_law_range.f T.d_law_range.fd ["web", "rules", "claim"] (spG (P, w) 3 m_law_range) :=
  T.d_law_range.F.ok sc_law_range (fun vs H Q E h => spG_len h) fun cdv A outer s H vs Q E hr h => ⟨tS (P, w) b_law_range, (gss_cons (gs_asg (gv 2) (gg_tup rfl (ggs_cons (K := K) (b := false) (t1 := [3]) (gg_name (K := K) (i := 3) sc_law_range.nd rfl (Or.inl rfl)) (ggs_cons (K := K) (b := false) (t1 := [4]) (gg_name (K := K) (i := 4) sc_law_range.nd rfl (Or.inl rfl)) (ggs_cons (K := K) (b := false) (t1 := [5]) (gg_name (K := K) (i := 5) sc_law_range.nd rfl (Or.inl rfl)) (ggs_cons (K := K) (b := false) (t1 := [6]) (gg_name (K := K) (i := 6) sc_law_range.nd rfl (Or.inl rfl)) (ggs_cons (K := K) (b := false) (t1 := [7]) (gg_name (K := K) (i := 7) sc_law_range.nd rfl (Or.inl rfl)) ggs_nil)))))))
  (gss_cons (gs_if (gt_cmp (op_eqG hr.units) do_eq (gv 3) gx_str (nomark _))
    (gss_cons (gs_setLc (i := 8) (tv := ([9] ++ ([10] ++ []))) (own := [("name", 9), ("ways", 10)]) rfl sc_law_range.nd rfl rfl (sw_true rfl rfl rfl (by decide +kernel)) (gi_seq (gx_ix op_ixG do_ix (gv 0) gx_int (fun _ _ => rfl))) (blkOk_by (own := [("name", 9), ("ways", 10)]) (N := ["web", "rules", "claim", "kind", "one", "other", "low", "high", "names", "name", "ways", "at", "links", "back"]) (sc := defScope s_law_range) (by decide +kernel)) (fun _ _ _ _ _ => by refine (gg_tup ?_ ?_); (exact rfl); (refine (ggs_cons (K := K) (b := false) (t1 := [9]) ?_ ?_); (refine (gg_name (K := K) (i := 9) ?_ ?_ ?_); (exact sc_law_range.nd); (exact rfl); (exact (Or.inl rfl))); (refine (ggs_cons (K := K) (b := false) (t1 := [10]) ?_ ggs_nil); (refine (gg_name (K := K) (i := 10) ?_ ?_ ?_); (exact sc_law_range.nd); (exact rfl); (exact (Or.inl rfl)))))) (fun _ _ _ _ _ => by exact gpts_nil) (fun _ _ _ _ _ => by exact (gv 9)))
  (gss_frz 8 (gss_cons (gs_set (i := 11) sc_law_range.nd rfl (Or.inl rfl) (gx_idx (u65 hr) (gv 8) (gv 4)))
  (gss_one (gs_ret (gx_ix op_ixG do_ix (gx_ix op_ixG do_ix (gx_ix op_ixG do_ix (gv 1) gx_int (fun _ _ => rfl)) (gv 11) (fun _ _ => rfl)) (gx_idx (u65 hr) (gx_ix op_ixG do_ix (gx_ix op_ixG do_ix (gx_ix op_ixG do_ix (gv 0) gx_int (fun _ _ => rfl)) (gv 11) (fun _ _ => rfl)) gx_int (fun _ _ => rfl)) (gv 5)) (fun _ _ => rfl)))))))
    gss_nil)
  (gss_cons (gs_set (i := 12) sc_law_range.nd rfl (Or.inl rfl) (gx_call (ok_law_links T) (hr.mono (by decide)) (by rfl) T.d_law_links.m T.d_law_links.F.kp T.d_law_links.b pass0 (ga_cons (gv 0) ga_nil)))
  (gss_cons (gs_if (gt_cmp op_ltG do_lt (gv 4) (gv 5) (nomark _))
    (gss_one (gs_ret (gx_sl (gx_ix op_ixG do_ix (gx_ix op_ixG do_ix (gv 1) gx_int (fun _ _ => rfl)) (gx_idx (u65 hr) (gv 12) (gx_tup (ga_cons (gv 4) (ga_cons (gv 5) ga_nil)))) (fun _ _ => rfl)) gpo_none (gpo_some gx_int))))
    gss_nil)
  (gss_cons (gs_set (i := 13) sc_law_range.nd rfl (Or.inl rfl) (gx_ix op_ixG do_ix (gx_ix op_ixG do_ix (gv 1) gx_int (fun _ _ => rfl)) (gx_idx (u65 hr) (gv 12) (gx_tup (ga_cons (gv 5) (ga_cons (gv 4) ga_nil)))) (fun _ _ => rfl)))
  (gss_one (gs_ret (gx_tup (ga_cons (gx_op op_sub do_sub gx_int (gx_ix op_ixG do_ix (gv 13) gx_int (fun _ _ => rfl))) (ga_cons (gx_op op_sub do_sub gx_int (gx_ix op_ixG do_ix (gv 13) gx_int (fun _ _ => rfl))) ga_nil)))))))))), fn_run (N := ["web", "rules", "claim", "kind", "one", "other", "low", "high", "names", "name", "ways", "at", "links", "back"]) h⟩
theorem ok_law_narrowed (T : Txt K mg) : FnOk P w K mg base CX0 2 T.d_law_narrowed.f T.d_law_narrowed.fd ["web", "rules", "claim", "low", "high"] (spG (P, w) 5 m_law_narrowed) :=
  T.d_law_narrowed.F.ok sc_law_narrowed (fun vs H Q E h => spG_len h) fun cdv A outer s H vs Q E hr h => ⟨tS (P, w) b_law_narrowed, (gss_cons (gs_if (gt_cmp op_gtG do_gt (gv 3) (gv 4) (nomark _))
    (gss_one (gs_ret gx_non))
    gss_nil)
  (gss_cons (gs_asg (gx_sl (gv 2) gpo_none (gpo_some gx_int)) (gg_tup rfl (ggs_cons (K := K) (b := false) (t1 := [5]) (gg_name (K := K) (i := 5) sc_law_narrowed.nd rfl (Or.inl rfl)) (ggs_cons (K := K) (b := false) (t1 := [6]) (gg_name (K := K) (i := 6) sc_law_narrowed.nd rfl (Or.inl rfl)) (ggs_cons (K := K) (b := false) (t1 := [7]) (gg_name (K := K) (i := 7) sc_law_narrowed.nd rfl (Or.inl rfl)) ggs_nil)))))
  (gss_cons (gs_asg (gv 1) (gg_tup rfl (ggs_cons (K := K) (b := false) (t1 := [8]) (gg_name (K := K) (i := 8) sc_law_narrowed.nd rfl (Or.inl rfl)) (ggs_cons (K := K) (b := false) (t1 := [9]) (gg_name (K := K) (i := 9) sc_law_narrowed.nd rfl (Or.inl rfl)) ggs_nil))))
  (gss_cons (gs_if (gt_cmp (op_eqG hr.units) do_eq (gv 5) gx_str (nomark _))
    (gss_cons (gs_setLc (i := 10) (tv := ([11] ++ ([12] ++ []))) (own := [("name", 11), ("ways", 12)]) rfl sc_law_narrowed.nd rfl rfl (sw_true rfl rfl rfl (by decide +kernel)) (gi_seq (gx_ix op_ixG do_ix (gv 0) gx_int (fun _ _ => rfl))) (blkOk_by (own := [("name", 11), ("ways", 12)]) (N := ["web", "rules", "claim", "low", "high", "kind", "one", "other", "corners", "links", "names", "name", "ways", "at", "k", "row", "put"]) (sc := defScope s_law_narrowed) (by decide +kernel)) (fun _ _ _ _ _ => by refine (gg_tup ?_ ?_); (exact rfl); (refine (ggs_cons (K := K) (b := false) (t1 := [11]) ?_ ?_); (refine (gg_name (K := K) (i := 11) ?_ ?_ ?_); (exact sc_law_narrowed.nd); (exact rfl); (exact (Or.inl rfl))); (refine (ggs_cons (K := K) (b := false) (t1 := [12]) ?_ ggs_nil); (refine (gg_name (K := K) (i := 12) ?_ ?_ ?_); (exact sc_law_narrowed.nd); (exact rfl); (exact (Or.inl rfl)))))) (fun _ _ _ _ _ => by exact gpts_nil) (fun _ _ _ _ _ => by exact (gv 11)))
  (gss_frz 10 (gss_cons (gs_set (i := 13) sc_law_narrowed.nd rfl (Or.inl rfl) (gx_idx (u65 hr) (gv 10) (gv 6)))
  (gss_cons (gs_set (i := 14) sc_law_narrowed.nd rfl (Or.inl rfl) (gx_idx (u65 hr) (gx_ix op_ixG do_ix (gx_ix op_ixG do_ix (gx_ix op_ixG do_ix (gv 0) gx_int (fun _ _ => rfl)) (gv 13) (fun _ _ => rfl)) gx_int (fun _ _ => rfl)) (gv 7)))
  (gss_cons (gs_set (i := 15) sc_law_narrowed.nd rfl (Or.inl rfl) (gx_op op_addG do_add (gx_op op_addG do_add (gx_sl (gx_ix op_ixG do_ix (gv 8) (gv 13) (fun _ _ => rfl)) gpo_none (gpo_some (gv 14))) (gx_tup (ga_cons (gx_tup (ga_cons (gv 3) (ga_cons (gv 4) ga_nil))) ga_nil))) (gx_sl (gx_ix op_ixG do_ix (gv 8) (gv 13) (fun _ _ => rfl)) (gpo_some (gx_op op_addG do_add (gv 14) gx_int)) gpo_none)))
  (gss_one (gs_ret (gx_tup (ga_cons (gx_op op_addG do_add (gx_op op_addG do_add (gx_sl (gv 8) gpo_none (gpo_some (gv 13))) (gx_tup (ga_cons (gv 15) ga_nil))) (gx_sl (gv 8) (gpo_some (gx_op op_addG do_add (gv 13) gx_int)) gpo_none)) (ga_cons (gv 9) ga_nil))))))))))
    gss_nil)
  (gss_cons (gs_set (i := 13) sc_law_narrowed.nd rfl (Or.inl rfl) (gx_idx (u65 hr) (gx_call (ok_law_links T) (hr.mono (by decide)) (by rfl) T.d_law_links.m T.d_law_links.F.kp T.d_law_links.b pass0 (ga_cons (gv 0) ga_nil)) (gx_tup (ga_cons (gx_callB dc_min (op_minG rfl hr.units) (by rfl) T.n_min (by decide +kernel) (ga_cons (gv 6) (ga_cons (gv 7) ga_nil))) (ga_cons (gx_callB dc_max (op_maxG rfl hr.units) (by rfl) T.n_max (by decide +kernel) (ga_cons (gv 6) (ga_cons (gv 7) ga_nil))) ga_nil)))))
  (gss_cons (gs_set (i := 16) sc_law_narrowed.nd rfl (Or.inl rfl) (gx_tup (ga_cons (gv 3) (ga_cons (gv 4) (ga_cons (gx_ix op_ixG do_ix (gx_ix op_ixG do_ix (gv 9) (gv 13) (fun _ _ => rfl)) gx_int (fun _ _ => rfl)) ga_nil)))))
  (gss_cons (gs_if (gt_cmp op_gtG do_gt (gv 6) (gv 7) (nomark _))
    (gss_one (gs_set (i := 16) sc_law_narrowed.nd rfl (Or.inl rfl) (gx_tup (ga_cons (gx_op op_sub do_sub gx_int (gv 4)) (ga_cons (gx_op op_sub do_sub gx_int (gv 3)) (ga_cons (gx_ix op_ixG do_ix (gx_ix op_ixG do_ix (gv 9) (gv 13) (fun _ _ => rfl)) gx_int (fun _ _ => rfl)) ga_nil))))))
    gss_nil)
  (gss_one (gs_ret (gx_tup (ga_cons (gv 8) (ga_cons (gx_op op_addG do_add (gx_op op_addG do_add (gx_sl (gv 9) gpo_none (gpo_some (gv 13))) (gx_tup (ga_cons (gv 16) ga_nil))) (gx_sl (gv 9) (gpo_some (gx_op op_addG do_add (gv 13) gx_int)) gpo_none)) ga_nil)))))))))))), fn_run (N := ["web", "rules", "claim", "low", "high", "kind", "one", "other", "corners", "links", "names", "name", "ways", "at", "k", "row", "put"]) h⟩
theorem ok_law_cases (T : Txt K mg) : FnOk P w K mg base CX0 3 T.d_law_cases.f T.d_law_cases.fd ["ask", "claim", "denied"] (spG (P, w) 3 m_law_cases) :=
  T.d_law_cases.F.ok sc_law_cases (fun vs H Q E h => spG_len h) fun cdv A outer s H vs Q E hr h => ⟨tS (P, w) b_law_cases, (gss_cons (gs_asg (gv 0) (gg_tup rfl (ggs_cons (K := K) (b := false) (t1 := [3]) (gg_name (K := K) (i := 3) sc_law_cases.nd rfl (Or.inl rfl)) (ggs_cons (K := K) (b := false) (t1 := [4]) (gg_name (K := K) (i := 4) sc_law_cases.nd rfl (Or.inl rfl)) (ggs_cons (K := K) (b := false) (t1 := [5]) (gg_name (K := K) (i := 5) sc_law_cases.nd rfl (Or.inl rfl)) ggs_nil)))))
  (gss_cons (gs_asg (gx_call (ok_law_range T) (hr.mono (by decide)) (by rfl) T.d_law_range.m T.d_law_range.F.kp T.d_law_range.b pass0 (ga_cons (gv 3) (ga_cons (gv 4) (ga_cons (gv 1) ga_nil)))) (gg_tup rfl (ggs_cons (K := K) (b := false) (t1 := [6]) (gg_name (K := K) (i := 6) sc_law_cases.nd rfl (Or.inl rfl)) (ggs_cons (K := K) (b := false) (t1 := [7]) (gg_name (K := K) (i := 7) sc_law_cases.nd rfl (Or.inl rfl)) ggs_nil))))
  (gss_cons (gs_asg (gx_sl (gv 1) (gpo_some gx_int) gpo_none) (gg_tup rfl (ggs_cons (K := K) (b := false) (t1 := [8]) (gg_name (K := K) (i := 8) sc_law_cases.nd rfl (Or.inl rfl)) (ggs_cons (K := K) (b := false) (t1 := [9]) (gg_name (K := K) (i := 9) sc_law_cases.nd rfl (Or.inl rfl)) ggs_nil))))
  (gss_cons (gs_set (i := 10) sc_law_cases.nd rfl (Or.inl rfl) (gx_lst (ga_cons (gx_tup (ga_cons (gx_callB dc_max (op_maxG rfl hr.units) (by rfl) T.n_max (by decide +kernel) (ga_cons (gv 6) (ga_cons (gv 8) ga_nil))) (ga_cons (gx_callB dc_min (op_minG rfl hr.units) (by rfl) T.n_min (by decide +kernel) (ga_cons (gv 7) (ga_cons (gv 9) ga_nil))) ga_nil))) ga_nil)))
  (gss_cons (gs_if (gt_val (gv 2))
    (gss_one (gs_set (i := 10) sc_law_cases.nd rfl (Or.inl rfl) (gx_lst (ga_cons (gx_tup (ga_cons (gv 6) (ga_cons (gx_callB dc_min (op_minG rfl hr.units) (by rfl) T.n_min (by decide +kernel) (ga_cons (gv 7) (ga_cons (gx_op op_sub do_sub (gv 8) gx_int) ga_nil))) ga_nil))) (ga_cons (gx_tup (ga_cons (gx_callB dc_max (op_maxG rfl hr.units) (by rfl) T.n_max (by decide +kernel) (ga_cons (gv 6) (ga_cons (gx_op op_addG do_add (gv 9) gx_int) ga_nil))) (ga_cons (gv 7) ga_nil))) ga_nil)))))
    gss_nil)
  (gss_cons (gs_setO (i := 11) sc_law_cases.nd rfl (Or.inl rfl) (gx_lst ga_nil))
  (gss_cons (gs_for PassesOwn.never rfl (gi_seq (gv 10)) (gg_tup rfl (ggs_cons (K := K) (b := false) (t1 := [12]) (gg_name (K := K) (i := 12) sc_law_cases.nd rfl (Or.inl rfl)) (ggs_cons (K := K) (b := false) (t1 := [13]) (gg_name (K := K) (i := 13) sc_law_cases.nd rfl (Or.inl rfl)) ggs_nil)))
    (gss_cons (gs_set (i := 14) sc_law_cases.nd rfl (Or.inl rfl) (gx_call (ok_law_narrowed T) (hr.mono (by decide)) (by rfl) T.d_law_narrowed.m T.d_law_narrowed.F.kp T.d_law_narrowed.b pass0 (ga_cons (gv 3) (ga_cons (gv 4) (ga_cons (gv 1) (ga_cons (gv 12) (ga_cons (gv 13) ga_nil)))))))
  (gss_one (gs_if (gt_pc (gc_notN (gv 14)))
    (gss_one (gs_expr (gmeth 11 PySem.F.plainAttrs_list PySem.F.slot_list_append PySem.F.type_list_append ms_append (ga_cons (gx_tup (ga_cons (gv 3) (ga_cons (gv 14) (ga_cons (gv 5) ga_nil)))) ga_nil))))
    gss_nil))))
  (gss_one (gs_ret (gx_callTy dc_tuple op_tupG (by rfl) T.n_tuple (by decide +kernel) (ga_cons (gv 11) ga_nil))))))))))), fn_run (N := ["ask", "claim", "denied", "web", "rules", "most", "first", "last", "low", "high", "ranges", "found", "begin", "end", "narrowed_v"]) h⟩
theorem ok_law_same (T : Txt K mg) : FnOk P w K mg base CX0 1 T.d_law_same.f T.d_law_same.fd ["told", "due"] (spG (P, w) 2 m_law_same) :=
  T.d_law_same.F.ok sc_law_same (fun vs H Q E h => spG_len h) fun cdv A outer s H vs Q E hr h => ⟨tS (P, w) b_law_same, (gss_cons (gs_setO (i := 2) sc_law_same.nd rfl (Or.inl rfl) (gx_lst (ga_cons (gx_tup (ga_cons (gv 0) (ga_cons (gv 1) ga_nil))) ga_nil)))
  (gss_cons (gs_while FUEL PassesOwn.never (gt_cmp op_gtG do_gt (gx_callB dc_len (op_lenG rfl) (by rfl) T.n_len (by decide +kernel) (ga_cons (gv 2) ga_nil)) gx_int (nomark _))
    (gss_cons (gs_asg (gmeth0 2 PySem.F.plainAttrs_list PySem.F.slot_list_pop PySem.F.type_list_pop ms_pop) (gg_tup rfl (ggs_cons (K := K) (b := false) (t1 := [3]) (gg_name (K := K) (i := 3) sc_law_same.nd rfl (Or.inl rfl)) (ggs_cons (K := K) (b := false) (t1 := [4]) (gg_name (K := K) (i := 4) sc_law_same.nd rfl (Or.inl rfl)) ggs_nil))))
  (gss_one (gs_if (gt_val (gx_isi .tup (by rfl) T.n_isinstance (by decide +kernel) (gv 4) rfl (pe_bltn (v := .ty "tuple") (by rfl) T.n_tuple (by decide +kernel) rfl)))
    (gss_cons (gs_if (PW.pt (gw_or (gt_not (gt_val (gx_isi .tup (by rfl) T.n_isinstance (by decide +kernel) (gv 3) rfl (pe_bltn (v := .ty "tuple") (by rfl) T.n_tuple (by decide +kernel) rfl)))) (gw_or1 (gt_cmp (op_neG hr.units) do_ne (gx_callB dc_len (op_lenG rfl) (by rfl) T.n_len (by decide +kernel) (ga_cons (gv 3) ga_nil)) (gx_callB dc_len (op_lenG rfl) (by rfl) T.n_len (by decide +kernel) (ga_cons (gv 4) ga_nil)) (nomark _)))))
    (gss_one (gs_ret gx_bl))
    gss_nil)
  (gss_one (gs_for PassesOwn.never rfl (gi_range1 (by rfl) T.n_range (ga_cons (gx_callB dc_len (op_lenG rfl) (by rfl) T.n_len (by decide +kernel) (ga_cons (gv 4) ga_nil)) ga_nil)) (gg_name (K := K) (i := 5) sc_law_same.nd rfl (Or.inl rfl))
    (gss_one (gs_expr (gmeth 2 PySem.F.plainAttrs_list PySem.F.slot_list_append PySem.F.type_list_append ms_append (ga_cons (gx_tup (ga_cons (gx_ix op_ixG do_ix (gv 3) (gv 5) (fun _ _ => rfl)) (ga_cons (gx_ix op_ixG do_ix (gv 4) (gv 5) (fun _ _ => rfl)) ga_nil))) ga_nil)))))))
    (gss_one (gs_if (gt_pc (gc_isN (gv 4)))
    (gss_one (gs_if (gt_pc (gc_notN (gv 3)))
    (gss_one (gs_ret gx_bl))
    gss_nil))
    (gss_one (gs_if (gt_val (gx_isi .str (by rfl) T.n_isinstance (by decide +kernel) (gv 4) rfl (pe_bltn (v := .ty "str") (by rfl) T.n_str (by decide +kernel) rfl)))
    (gss_one (gs_if (PW.pt (gw_or (gt_not (gt_val (gx_isi .str (by rfl) T.n_isinstance (by decide +kernel) (gv 3) rfl (pe_bltn (v := .ty "str") (by rfl) T.n_str (by decide +kernel) rfl)))) (gw_or1 (gt_cmp (op_neG hr.units) do_ne (gv 3) (gv 4) (nomark _)))))
    (gss_one (gs_ret gx_bl))
    gss_nil))
    (gss_one (gs_if (PW.pt (gw_or (gt_not (gt_val (gx_isi .int (by rfl) T.n_isinstance (by decide +kernel) (gv 3) rfl (pe_bltn (v := .ty "int") (by rfl) T.n_int (by decide +kernel) rfl)))) (gw_or (gt_val (gx_isi .bl (by rfl) T.n_isinstance (by decide +kernel) (gv 3) rfl (pe_bltn (v := .ty "bool") (by rfl) T.n_bool (by decide +kernel) rfl))) (gw_or1 (gt_cmp (op_neG hr.units) do_ne (gv 3) (gv 4) (nomark _))))))
    (gss_one (gs_ret gx_bl))
    gss_nil))))))))))
  (gss_one (gs_ret gx_bl)))), fn_run (N := ["told", "due", "left", "one", "other", "k"]) h⟩
theorem kb_denial_cases (T : Txt K mg) : KBinds K T.d_denial_cases.fd ["ask", "claim"] ["claim", "ask"] gRev gRev := by
  obtain ⟨oc, od, kV, doc, pm, an, cdv, ct, osl, e, lk, hcd⟩ := T.d_denial_cases.F.ex
  refine ⟨fun s us ws _ hl => ?_, fun r1 r2 => rev2 r1 r2⟩
  rw [e]
  cases us with
  | cons _ _ => exact absurd hl (by simp [gRev])
  | nil =>
    have hl : ws.reverse.length = 2 := hl
    rw [List.length_reverse] at hl
    match ws, hl with
    | [x0, x1], _ => exact BindsTo.of_eq rfl
theorem ok_law_asked (T : Txt K mg) : FnOk P w K mg base CX0 10 T.d_law_asked.f T.d_law_asked.fd ["ask", "claim", "seen"] (spG (P, w) 3 m_law_asked) :=
  T.d_law_asked.F.ok sc_law_asked (fun vs H Q E h => spG_len h) fun cdv A outer s H vs Q E hr h => ⟨tS (P, w) b_law_asked, (gss_cons (gs_set (i := 3) sc_law_asked.nd rfl (Or.inl rfl) (gx_call (ok_law_cases T) (hr.mono (by decide)) (by rfl) T.d_law_cases.m T.d_law_cases.F.kp T.d_law_cases.b pass0 (ga_cons (gv 0) (ga_cons (gv 1) (ga_cons gx_bl ga_nil)))))
  (gss_cons (gs_set (i := 4) sc_law_asked.nd rfl (Or.inl rfl) (gx_call (ok_law_cases T) (hr.mono (by decide)) (by rfl) T.d_law_cases.m T.d_law_cases.F.kp T.d_law_cases.b pass0 (ga_cons (gv 0) (ga_cons (gv 1) (ga_cons gx_bl ga_nil)))))
  (gss_cons (gput 2 (u65 hr) (gx_callB dc_len (op_lenG rfl) (by rfl) T.n_len (by decide +kernel) (ga_cons (gv 3) ga_nil)) (gx_op op_addG do_add (gx_ix op_ixG do_ix (gv 2) (gx_callB dc_len (op_lenG rfl) (by rfl) T.n_len (by decide +kernel) (ga_cons (gv 3) ga_nil)) (fun _ _ => rfl)) gx_int))
  (gss_cons (gput 2 (u65 hr) (gx_op op_addG do_add gx_int (gx_callB dc_len (op_lenG rfl) (by rfl) T.n_len (by decide +kernel) (ga_cons (gv 4) ga_nil))) (gx_op op_addG do_add (gx_ix op_ixG do_ix (gv 2) (gx_op op_addG do_add gx_int (gx_callB dc_len (op_lenG rfl) (by rfl) T.n_len (by decide +kernel) (ga_cons (gv 4) ga_nil))) (fun _ _ => rfl)) gx_int))
  (gss_cons (gs_if (gt_not (gt_val (gx_call (ok_law_same T) (hr.mono (by decide)) (by rfl) T.d_law_same.m T.d_law_same.F.kp T.d_law_same.b pass0 (ga_cons (gx_call (ok_cases_of T) (hr.mono (by decide)) (by rfl) T.d_cases_of.m T.d_cases_of.F.kp T.d_cases_of.b pass0 (ga_cons (gv 0) (ga_cons (gv 1) ga_nil))) (ga_cons (gv 3) ga_nil)))))
    (gss_one (gs_ret gx_bl))
    gss_nil)
  (gss_one (gs_ret (gx_call (ok_law_same T) (hr.mono (by decide)) (by rfl) T.d_law_same.m T.d_law_same.F.kp T.d_law_same.b pass0 (ga_cons (gx_callKR (ok_denial_cases T) (hr.mono (by decide)) (by rfl) T.d_denial_cases.m T.d_denial_cases.F.kp (kb_denial_cases T) pass0 (gk_cons (gv 1) (gk_cons (gv 0) gk_nil))) (ga_cons (gv 4) ga_nil)))))))))), fn_run (N := ["ask", "claim", "seen", "kept", "denied"]) h⟩
theorem ok_law_claims (T : Txt K mg) : FnOk P w K mg base CX0 3 T.d_law_claims.f T.d_law_claims.fd ["pool", "web", "rules"] (spG (P, w) 3 m_law_claims) :=
  T.d_law_claims.F.ok sc_law_claims (fun vs H Q E h => spG_len h) fun cdv A outer s H vs Q E hr h => ⟨tS (P, w) b_law_claims, (gss_cons (gs_set (i := 3) sc_law_claims.nd rfl (Or.inr rfl) (gx_call (ok_law_claim T) (hr.mono (by decide)) (by rfl) T.d_law_claim.m T.d_law_claim.F.kp T.d_law_claim.b pass0 (ga_cons (gv 0) (ga_cons (gv 1) ga_nil))))
  (gss_cons (gs_asg (gx_call (ok_law_range T) (hr.mono (by decide)) (by rfl) T.d_law_range.m T.d_law_range.F.kp T.d_law_range.b pass0 (ga_cons (gv 1) (ga_cons (gv 2) (ga_cons (gv 3) ga_nil)))) (gg_tup rfl (ggs_cons (K := K) (b := false) (t1 := [4]) (gg_name (K := K) (i := 4) sc_law_claims.nd rfl (Or.inl rfl)) (ggs_cons (K := K) (b := false) (t1 := [5]) (gg_name (K := K) (i := 5) sc_law_claims.nd rfl (Or.inl rfl)) ggs_nil))))
  (gss_cons (gs_asg (gx_ix op_ixG do_ix (gx_lst (ga_cons (gx_tup (ga_cons gx_int (ga_cons gx_int ga_nil))) (ga_cons (gx_tup (ga_cons (gx_un un_neg du_neg gx_int) (ga_cons gx_int ga_nil))) ga_nil))) (gx_callTy dc_int call_int1 (by rfl) T.n_int (by decide +kernel) (ga_cons (gx_cmp (op_eqG hr.units) do_eq (gx_ix op_ixG do_ix (gv 3) gx_int (fun _ _ => rfl)) gx_str (nomark _)) ga_nil)) (fun _ _ => rfl)) (gg_tup rfl (ggs_cons (K := K) (b := false) (t1 := [6]) (gg_name (K := K) (i := 6) sc_law_claims.nd rfl (Or.inl rfl)) (ggs_cons (K := K) (b := false) (t1 := [7]) (gg_name (K := K) (i := 7) sc_law_claims.nd rfl (Or.inl rfl)) ggs_nil))))
  (gss_cons (gs_set (i := 8) sc_law_claims.nd rfl (Or.inl rfl) (gx_op op_addG do_add (gv 4) (gx_call (ok_law_take T) (hr.mono (by decide)) (by rfl) T.d_law_take.m T.d_law_take.F.kp T.d_law_take.b pass0 (ga_cons (gv 0) (ga_cons (gx_op op_addG do_add (gx_op op_sub do_sub (gv 5) (gv 4)) gx_int) ga_nil)))))
  (gss_cons (gs_setO (i := 9) sc_law_claims.nd rfl (Or.inl rfl) (gx_lst (ga_cons (gx_tup (ga_cons (gv 4) (ga_cons (gv 5) ga_nil))) (ga_cons (gx_tup (ga_cons (gv 6) (ga_cons (gv 7) ga_nil))) (ga_cons (gx_tup (ga_cons (gv 4) (ga_cons (gv 4) ga_nil))) (ga_cons (gx_tup (ga_cons (gv 5) (ga_cons (gv 5) ga_nil))) (ga_cons (gx_tup (ga_cons (gv 8) (ga_cons (gv 8) ga_nil))) (ga_cons (gx_tup (ga_cons (gv 6) (ga_cons (gv 8) ga_nil))) (ga_cons (gx_tup (ga_cons (gv 8) (ga_cons (gv 7) ga_nil))) (ga_cons (gx_sl (gv 3) (gpo_some gx_int) gpo_none) ga_nil))))))))))
  (gss_cons (gs_if (gt_cmp op_gtG do_gt (gv 4) (gv 6) (nomark _))
    (gss_one (gs_expr (gmeth 9 PySem.F.plainAttrs_list PySem.F.slot_list_append PySem.F.type_list_append ms_append (ga_cons (gx_tup (ga_cons (gv 6) (ga_cons (gx_op op_sub do_sub (gv 4) gx_int) ga_nil))) ga_nil))))
    gss_nil)
  (gss_cons (gs_if (gt_cmp op_ltG do_lt (gv 5) (gv 7) (nomark _))
    (gss_one (gs_expr (gmeth 9 PySem.F.plainAttrs_list PySem.F.slot_list_append PySem.F.type_list_append ms_append (ga_cons (gx_tup (ga_cons (gx_op op_addG do_add (gv 5) gx_int) (ga_cons (gv 7) ga_nil))) ga_nil))))
    gss_nil)
  (gss_frz 9 (gss_cons (gs_setLc (i := 10) (tv := [11]) (own := [("pair", 11)]) rfl sc_law_claims.nd rfl rfl (sw_true rfl rfl rfl (by decide +kernel)) (gi_seq (gv 9)) (blkOk_by (own := [("pair", 11)]) (N := ["pool", "web", "rules", "claim", "first", "last", "least", "most", "middle", "ends", "rows", "pair", "row"]) (sc := defScope s_law_claims) (by decide +kernel)) (fun _ _ _ _ _ => by refine (gg_name (K := K) (i := 11) ?_ ?_ ?_); (exact sc_law_claims.nd); (exact rfl); (exact (Or.inl rfl))) (fun _ _ _ _ _ => by exact gpts_nil) (fun _ _ _ _ _ => by refine (gx_op op_addG do_add ?_ ?_); (refine (gx_sl ?_ gpo_none ?_); (exact (gv 3)); (exact (gpo_some gx_int))); (exact (gv 11))))
  (gss_frz 10 (gss_cons (gs_if (gt_cmp (op_eqG hr.units) do_eq (gx_ix op_ixG do_ix (gv 3) gx_int (fun _ _ => rfl)) gx_str (nomark _))
    (gss_one (gs_set (i := 10) sc_law_claims.nd rfl (Or.inl rfl) (gx_op op_addG do_add (gv 10) (gx_lc (tv := [12]) (own := [("row", 12)]) rfl sc_law_claims.nd (gi_seq (gv 10)) (blkOk_by (own := [("row", 12)]) (N := ["pool", "web", "rules", "claim", "first", "last", "least", "most", "middle", "ends", "rows", "pair", "row"]) (sc := defScope s_law_claims) (by decide +kernel)) (fun _ _ _ _ _ => by refine (gg_name (K := K) (i := 12) ?_ ?_ ?_); (exact sc_law_claims.nd); (exact rfl); (exact (Or.inl rfl))) (fun _ _ _ _ _ => by exact gpts_nil) (fun _ _ _ _ _ => by refine (gx_tup ?_); (refine (ga_cons gx_str ?_); (refine (ga_cons ?_ ?_); (refine (gx_ix op_ixG do_ix ?_ gx_int (fun _ _ => rfl)); (exact (gv 3))); (refine (ga_cons ?_ ?_); (refine (gx_ix op_ixG do_ix ?_ gx_int (fun _ _ => rfl)); (exact (gv 3))); (refine (ga_cons ?_ ?_); (refine (gx_op op_sub do_sub gx_int ?_); (refine (gx_ix op_ixG do_ix ?_ gx_int (fun _ _ => rfl)); (exact (gv 12)))); (refine (ga_cons ?_ ga_nil); (refine (gx_op op_sub do_sub gx_int ?_); (refine (gx_ix op_ixG do_ix ?_ gx_int (fun _ _ => rfl)); (exact (gv 12))))))))))))))
    gss_nil)
  (gss_one (gs_ret (gv 10)))))))))))))), fn_run (N := ["pool", "web", "rules", "claim", "first", "last", "least", "most", "middle", "ends", "rows", "pair", "row"]) h⟩
theorem ok_law_turned (T : Txt K mg) : FnOk P w K mg base CX0 11 T.d_law_turned.f T.d_law_turned.fd ["ask", "seen"] (spG (P, w) 2 m_law_turned) :=
  T.d_law_turned.F.ok sc_law_turned (fun vs H Q E h => spG_len h) fun cdv A outer s H vs Q E hr h => ⟨tS (P, w) b_law_turned, (gss_cons (gs_asg (gv 0) (gg_tup rfl (ggs_cons (K := K) (b := false) (t1 := [2]) (gg_name (K := K) (i := 2) sc_law_turned.nd rfl (Or.inl rfl)) (ggs_cons (K := K) (b := false) (t1 := [3]) (gg_name (K := K) (i := 3) sc_law_turned.nd rfl (Or.inl rfl)) (ggs_cons (K := K) (b := false) (t1 := [4]) (gg_name (K := K) (i := 4) sc_law_turned.nd rfl (Or.inl rfl)) ggs_nil)))))
  (gss_cons (gs_asg (gx_ix op_ixG do_ix (gx_call (ok_law_links T) (hr.mono (by decide)) (by rfl) T.d_law_links.m T.d_law_links.F.kp T.d_law_links.b pass0 (ga_cons (gv 2) ga_nil)) gx_int (fun _ _ => rfl)) (gg_tup rfl (ggs_cons (K := K) (b := false) (t1 := [5]) (gg_name (K := K) (i := 5) sc_law_turned.nd rfl (Or.inl rfl)) (ggs_cons (K := K) (b := false) (t1 := [6]) (gg_name (K := K) (i := 6) sc_law_turned.nd rfl (Or.inl rfl)) ggs_nil))))
  (gss_cons (gs_asg (gv 3) (gg_tup rfl (ggs_cons (K := K) (b := false) (t1 := [7]) (gg_name (K := K) (i := 7) sc_law_turned.nd rfl (Or.inl rfl)) (ggs_cons (K := K) (b := false) (t1 := [8]) (gg_name (K := K) (i := 8) sc_law_turned.nd rfl (Or.inl rfl)) ggs_nil))))
  (gss_cons (gs_set (i := 9) sc_law_turned.nd rfl (Or.inl rfl) (gx_tup (ga_cons (gv 2) (ga_cons (gx_tup (ga_cons (gv 7) (ga_cons (gx_op op_addG do_add (gx_tup (ga_cons (gx_tup (ga_cons (gx_un un_neg du_neg gx_int) (ga_cons gx_int (ga_cons (gx_ix op_ixG do_ix (gx_ix op_ixG do_ix (gv 8) gx_int (fun _ _ => rfl)) gx_int (fun _ _ => rfl)) ga_nil)))) ga_nil)) (gx_sl (gv 8) (gpo_some gx_int) gpo_none)) ga_nil))) (ga_cons (gv 4) ga_nil)))))
  (gss_cons (gs_for PassesOwn.never rfl (gi_seq (gx_tup (ga_cons (gx_tup (ga_cons gx_int (ga_cons gx_int ga_nil))) (ga_cons (gx_tup (ga_cons (gx_un un_neg du_neg gx_int) (ga_cons gx_int ga_nil))) (ga_cons (gx_tup (ga_cons (gx_un un_neg du_neg gx_int) (ga_cons gx_int ga_nil))) (ga_cons (gx_tup (ga_cons gx_int (ga_cons gx_int ga_nil))) (ga_cons (gx_tup (ga_cons (gx_un un_neg du_neg gx_int) (ga_cons (gx_un un_neg du_neg gx_int) ga_nil))) (ga_cons (gx_tup (ga_cons gx_int (ga_cons gx_int ga_nil))) ga_nil)))))))) (gg_tup rfl (ggs_cons (K := K) (b := false) (t1 := [10]) (gg_name (K := K) (i := 10) sc_law_turned.nd rfl (Or.inl rfl)) (ggs_cons (K := K) (b := false) (t1 := [11]) (gg_name (K := K) (i := 11) sc_law_turned.nd rfl (Or.inl rfl)) ggs_nil)))
    (gss_one (gs_if (PW.pt (gw_or (gt_not (gt_val (gx_call (ok_law_asked T) (hr.mono (by decide)) (by rfl) T.d_law_asked.m T.d_law_asked.F.kp T.d_law_asked.b pass0 (ga_cons (gv 9) (ga_cons (gx_tup (ga_cons gx_str (ga_cons (gv 5) (ga_cons (gv 6) (ga_cons (gv 10) (ga_cons (gv 11) ga_nil)))))) (ga_cons (gv 1) ga_nil)))))) (gw_or1 (gt_not (gt_val (gx_call (ok_law_asked T) (hr.mono (by decide)) (by rfl) T.d_law_asked.m T.d_law_asked.F.kp T.d_law_asked.b pass0 (ga_cons (gv 9) (ga_cons (gx_tup (ga_cons gx_str (ga_cons (gv 6) (ga_cons (gv 5) (ga_cons (gv 10) (ga_cons (gv 11) ga_nil)))))) (ga_cons (gv 1) ga_nil)))))))))
    (gss_one (gs_ret gx_bl))
    gss_nil)))
  (gss_cons (gs_set (i := 12) sc_law_turned.nd rfl (Or.inl rfl) (gx_call (ok_denial_cases T) (hr.mono (by decide)) (by rfl) T.d_denial_cases.m T.d_denial_cases.F.kp T.d_denial_cases.b pass0 (ga_cons (gv 9) (ga_cons (gx_tup (ga_cons gx_str (ga_cons (gv 6) (ga_cons (gv 5) (ga_cons gx_int (ga_cons gx_int ga_nil)))))) ga_nil))))
  (gss_cons (gs_set (i := 13) sc_law_turned.nd rfl (Or.inl rfl) (gx_tup (ga_cons (gx_tup (ga_cons (gv 7) (ga_cons (gx_op op_addG do_add (gx_tup (ga_cons (gx_tup (ga_cons gx_int (ga_cons gx_int (ga_cons (gx_ix op_ixG do_ix (gx_ix op_ixG do_ix (gv 8) gx_int (fun _ _ => rfl)) gx_int (fun _ _ => rfl)) ga_nil)))) ga_nil)) (gx_sl (gv 8) (gpo_some gx_int) gpo_none)) ga_nil))) (ga_cons (gx_tup (ga_cons (gv 7) (ga_cons (gx_op op_addG do_add (gx_tup (ga_cons (gx_tup (ga_cons (gx_un un_neg du_neg gx_int) (ga_cons (gx_un un_neg du_neg gx_int) (ga_cons (gx_ix op_ixG do_ix (gx_ix op_ixG do_ix (gv 8) gx_int (fun _ _ => rfl)) gx_int (fun _ _ => rfl)) ga_nil)))) ga_nil)) (gx_sl (gv 8) (gpo_some gx_int) gpo_none)) ga_nil))) ga_nil))))
  (gss_one (gs_ret (gx_call (ok_law_same T) (hr.mono (by decide)) (by rfl) T.d_law_same.m T.d_law_same.F.kp T.d_law_same.b pass0 (ga_cons (gv 12) (ga_cons (gx_tup (ga_cons (gx_tup (ga_cons (gv 2) (ga_cons (gx_ix op_ixG do_ix (gv 13) gx_int (fun _ _ => rfl)) (ga_cons (gv 4) ga_nil)))) (ga_cons (gx_tup (ga_cons (gv 2) (ga_cons (gx_ix op_ixG do_ix (gv 13) gx_int (fun _ _ => rfl)) (ga_cons (gv 4) ga_nil)))) ga_nil))) ga_nil)))))))))))), fn_run (N := ["ask", "seen", "web", "rules", "most", "one", "other", "corners", "links", "near", "low", "high", "told", "left"]) h⟩
theorem ok_law (T : Txt K mg) : FnOk P w K mg base CX0 12 T.d_law.f T.d_law.fd ["script"] (spLaw K P w) :=
  T.d_law.F.ok sc_law (fun vs H Q E h => spLaw_len h) fun cdv A outer s H vs Q E hr h => ⟨_, (pss_cons (ps_set (i := 1) sc_law.nd rfl (Or.inl rfl) (pe_call (ok_law_pool T) (hr.mono (by decide)) (by rfl) T.d_law_pool.m T.d_law_pool.F.kp T.d_law_pool.b .nil pass0 (pa_cons (pv 0) pa_nil)))
  (gss_cons (gs_setO (i := 2) sc_law.nd rfl (Or.inl rfl) (gx_lst (ga_cons gx_int (ga_cons gx_int (ga_cons gx_int (ga_cons gx_int (ga_cons gx_int ga_nil)))))))
  (gss_cons (gs_setO (i := 3) sc_law.nd rfl (Or.inl rfl) (gx_lst (ga_cons (gx_call (ok_law_map T) (hr.mono (by decide)) (by rfl) T.d_law_map.m T.d_law_map.F.kp T.d_law_map.b pass0 (ga_cons (gv 1) (ga_cons (gx_op op_addG do_add gx_int (gx_call (ok_law_take T) (hr.mono (by decide)) (by rfl) T.d_law_take.m T.d_law_take.F.kp T.d_law_take.b pass0 (ga_cons (gv 1) (ga_cons gx_int ga_nil)))) ga_nil))) (ga_cons (gx_call (ok_law_map T) (hr.mono (by decide)) (by rfl) T.d_law_map.m T.d_law_map.F.kp T.d_law_map.b pass0 (ga_cons (gv 1) (ga_cons (gx_op op_addG do_add gx_int (gx_call (ok_law_take T) (hr.mono (by decide)) (by rfl) T.d_law_take.m T.d_law_take.F.kp T.d_law_take.b pass0 (ga_cons (gv 1) (ga_cons gx_int ga_nil)))) ga_nil))) ga_nil))))
  (gss_cons (gs_if (gt_cmp (op_eqG hr.units) do_eq (gx_call (ok_law_take T) (hr.mono (by decide)) (by rfl) T.d_law_take.m T.d_law_take.F.kp T.d_law_take.b pass0 (ga_cons (gv 1) (ga_cons gx_int ga_nil))) gx_int (nomark _))
    (gss_cons (gs_set (i := 4) sc_law.nd rfl (Or.inl rfl) (gx_callT (ok_law_smoothed T) (hr.mono (by decide)) (by rfl) T.d_law_smoothed.m T.d_law_smoothed.F.kp T.d_law_smoothed.b pass0 (gv 1) (gx_call (ok_law_grid T) (hr.mono (by decide)) (by rfl) T.d_law_grid.m T.d_law_grid.F.kp T.d_law_grid.b pass0 (ga_cons (gv 1) (ga_cons gx_int (ga_cons gx_int (ga_cons gx_int ga_nil)))))))
  (gss_cons (gs_setO (i := 5) sc_law.nd rfl (Or.inl rfl) gx_dnewN)
  (gss_cons (gs_for PassesOwn.never rfl (gi_seq (gx_callB dc_sorted (cr_sortD hr.units) (by rfl) T.n_sorted (by decide +kernel) (ga_cons (gx_callTy dc_list (op_listG rfl rfl) (by rfl) T.n_list (by decide +kernel) (ga_cons (gv 4) ga_nil)) ga_nil))) (gg_name (K := K) (i := 6) sc_law.nd rfl (Or.inl rfl))
    (gss_one (gput 5 (u65 hr) (gv 6) (gx_call (ok_law_word T) (hr.mono (by decide)) (by rfl) T.d_law_word.m T.d_law_word.F.kp T.d_law_word.b pass0 (ga_cons (gv 1) (ga_cons (gx_callB dc_len (op_lenG rfl) (by rfl) T.n_len (by decide +kernel) (ga_cons (gv 5) ga_nil)) ga_nil))))))
  (gss_one (gs_expr (gmeth 3 PySem.F.plainAttrs_list PySem.F.slot_list_append PySem.F.type_list_append ms_append (ga_cons (gx_call (ok_law_named T) (hr.mono (by decide)) (by rfl) T.d_law_named.m T.d_law_named.F.kp T.d_law_named.b pass0 (ga_cons (gv 1) (ga_cons (gv 4) (ga_cons (gv 5) ga_nil)))) ga_nil)))))))
    gss_nil)
  (gss_cons (gs_frz 3 (gs_for PassesOwn.never rfl (gi_seq (gv 3)) (gg_name (K := K) (i := 7) sc_law.nd rfl (Or.inl rfl))
    (gss_cons (gs_set (i := 8) sc_law.nd rfl (Or.inl rfl) (gx_ix op_ixG do_ix (gx_lst (ga_cons gx_int (ga_cons gx_int (ga_cons (gx_call (ok_law_take T) (hr.mono (by decide)) (by rfl) T.d_law_take.m T.d_law_take.F.kp T.d_law_take.b pass0 (ga_cons (gv 1) (ga_cons gx_int ga_nil))) ga_nil)))) (gx_call (ok_law_take T) (hr.mono (by decide)) (by rfl) T.d_law_take.m T.d_law_take.F.kp T.d_law_take.b pass0 (ga_cons (gv 1) (ga_cons gx_int ga_nil))) (fun _ _ => rfl)))
  (gss_cons (gs_for PassesOwn.never rfl (gi_seq (gx_tup (ga_cons (gx_call (ok_law_free T) (hr.mono (by decide)) (by rfl) T.d_law_free.m T.d_law_free.F.kp T.d_law_free.b pass0 (ga_cons (gv 7) ga_nil)) (ga_cons (gx_call (ok_law_rules T) (hr.mono (by decide)) (by rfl) T.d_law_rules.m T.d_law_rules.F.kp T.d_law_rules.b pass0 (ga_cons (gv 1) (ga_cons (gv 7) ga_nil))) ga_nil)))) (gg_name (K := K) (i := 9) sc_law.nd rfl (Or.inl rfl))
    (gss_one (gs_for PassesOwn.never rfl (gi_seq (gx_call (ok_law_claims T) (hr.mono (by decide)) (by rfl) T.d_law_claims.m T.d_law_claims.F.kp T.d_law_claims.b pass0 (ga_cons (gv 1) (ga_cons (gv 7) (ga_cons (gv 9) ga_nil))))) (gg_name (K := K) (i := 10) sc_law.nd rfl (Or.inl rfl))
    (gss_one (gs_if (gt_not (gt_val (gx_call (ok_law_asked T) (hr.mono (by decide)) (by rfl) T.d_law_asked.m T.d_law_asked.F.kp T.d_law_asked.b pass0 (ga_cons (gx_tup (ga_cons (gv 7) (ga_cons (gv 9) (ga_cons (gv 8) ga_nil)))) (ga_cons (gv 10) (ga_cons (gv 2) ga_nil))))))
    (gss_one (gs_ret gx_bl))
    gss_nil)))))
  (gss_one (gs_if (gt_not (gt_val (gx_call (ok_law_turned T) (hr.mono (by decide)) (by rfl) T.d_law_turned.m T.d_law_turned.F.kp T.d_law_turned.b pass0 (ga_cons (gx_tup (ga_cons (gv 7) (ga_cons (gx_call (ok_law_rules T) (hr.mono (by decide)) (by rfl) T.d_law_rules.m T.d_law_rules.F.kp T.d_law_rules.b pass0 (ga_cons (gv 1) (ga_cons (gv 7) ga_nil))) (ga_cons (gv 8) ga_nil)))) (ga_cons (gv 2) ga_nil)))))
    (gss_one (gs_ret gx_bl))
    gss_nil))))))
  (gss_one (gs_ret (gx_cmp op_gtG do_gt (gx_callB dc_min (op_minG rfl hr.units) (by rfl) T.n_min (by decide +kernel) (ga_cons (gv 2) ga_nil)) gx_int (nomark _))))))))), law_fin rfl h⟩
end
end K28
set_option exponentiation.threshold 3000
/-! k28 in plain Lean: the pool -/
namespace K28
open PySem hiding Env
open PyProof.Rows G
/-- a pool in order -/
def GoodP (o : Ob) : Prop := ∃ st gr, o = .pool [.int st] gr [] ∧ (0 ≤ st ∧ st < 2147483648) ∧ (∀ d ∈ gr, ∃ z, d = .int z) ∧ gr.length ≤ 63
theorem log_ok {n : Int} (h : n < 2 ^ 60) (h0 : 0 < n) : n.natAbs.log2 < 9000 := by
  have h1 : n.natAbs < 2 ^ 60 := by omega
  have := (Nat.log2_lt (n := n.natAbs) (k := 60) (by omega)).mpr h1
  omega
theorem take_ok {k : Nat} {o : Ob} {many : Int} (h : GoodP o) (h0 : 0 < many) (h1 : many < 2 ^ 60) : ∃ r o', m_law_take [.par k o, .dat (.int many)] = some (.dt (.int r), [.par k o', .dat (.int many)]) ∧ 0 ≤ r ∧ r < many ∧ GoodP o' := by
  obtain ⟨st, gr, rfl, hst, hz, hl⟩ := h
  have hc : 0 < many ∧ many.natAbs.log2 < 9000 ∧ gr.length < LIM ∧ 0 ≤ st ∧ st < 2147483648 := ⟨h0, log_ok h1 h0, Nat.lt_of_le_of_lt hl (by decide), hst.1, hst.2⟩
  have hm : ∀ x : Int, 0 ≤ x % many ∧ x % many < many := fun x => ⟨Int.emod_nonneg _ (by omega), Int.emod_lt_of_pos _ h0⟩
  have unf : m_law_take [.par k (.pool [.int st] gr []), .dat (.int many)] = (takeP st gr many).map fun r => (.dt (.int r.1), [.par k (.pool [.int r.2.1] r.2.2 []), .dat (.int many)]) := if_pos hc
  rw [unf]
  unfold takeP
  cases hg : gr.getLast? with
  | none =>
    refine ⟨_, _, rfl, (hm _).1, (hm _).2, _, _, rfl, ⟨Int.emod_nonneg _ (by decide), Int.lt_trans (Int.emod_lt_of_pos _ (by decide)) (by decide)⟩, fun d hd => (nomatch hd), Nat.zero_le _⟩
  | some y =>
    have ne : gr ≠ [] := fun z => by rw [z] at hg; cases hg
    have hl2 : 0 < gr.length := List.length_pos_iff.mpr ne
    obtain ⟨z, rfl⟩ := hz y (List.mem_of_getLast? hg)
    have hd : ∀ d ∈ gr.dropLast, ∃ z, d = .int z := fun d hd => hz d (List.dropLast_subset _ hd)
    refine ⟨_, _, rfl, (hm _).1, (hm _).2, _, _, rfl, hst, ?_, ?_⟩
    · dsimp only
      split
      · intro d hd'
        rcases List.mem_append.mp hd' with q | q
        · exact hd d q
        · exact ⟨_, List.mem_singleton.mp q⟩
      · exact hd
    · dsimp only
      split
      · rw [List.length_append, List.length_dropLast, List.length_singleton]
        omega
      · rw [List.length_dropLast]
        omega
theorem E_take {ρ : Env} {i : Nat} {m : Mi Val} {many : Int} {o : Ob} {Q : Val → Env → Prop} (hs : ρ[i]? = some (.own o) ∨ ∃ k, ρ[i]? = some (.par k o)) (hg : GoodP o) (hm : fz m ρ = some (.d (.int many), ρ)) (h0 : 0 < many) (h1 : many < 2 ^ 60)
    (q : ∀ r o', 0 ≤ r → r < many → GoodP o' → Q (.d (.int r)) (setOb ρ i o')) : E (mCall m_law_take [mVar i, m]) ρ Q := by
  obtain ⟨r, o', e1, e2, e3, e4⟩ := take_ok (k := 0) hg h0 h1
  have ev : fz (mVar i) ρ = some (.b i, ρ) ∧ slotOb ρ i = some o := by
    unfold fz mVar slotOb
    rcases hs with h | ⟨k, h⟩ <;> rw [h] <;> exact ⟨rfl, rfl⟩
  refine E_call (E_cons (.of ev.1 (E_cons (.of hm (E_nil ?_)))))
  refine ⟨(by show [i].Nodup; simp), [.par 0 o, .dat (.int many)], ?_, .dt (.int r), [.par 0 o', .dat (.int many)], .d (.int r), setOb ρ i o', e1, rfl, rfl, q r o' e2 e3 e4⟩
  show ((slotOb ρ i).bind fun o => ((some [Sl.dat (.int many)]).map fun r => Sl.par 0 o :: r)) = _
  rw [ev.2]
  rfl
end K28
/-! k28 in plain Lean: _law_grid's loop -/
namespace K28
open PySem hiding Env
open PyProof.Rows L2 HD G
abbrev Cell := Int × Int
def cD (c : Cell) : PyData := .tuple [.int c.1, .int c.2]
def lD (l : Cell × Cell) : PyData := .tuple [cD l.1, cD l.2]
theorem cD_inj {a b : Cell} (h : cD a = cD b) : a = b := by
  unfold cD at h
  simp at h
  exact Prod.ext h.1 h.2
theorem lD_inj {a b : Cell × Cell} (h : lD a = lD b) : a = b := by
  unfold lD at h
  simp at h
  exact Prod.ext (cD_inj h.1) (cD_inj h.2)
theorem cD_fine (c : Cell) : fine (cD c) = true := by
  rw [fine_iff]
  exact ⟨rfl, by simp [cD, PyData.depth, PyData.depthAll]⟩
theorem lD_fine (l : Cell × Cell) : fine (lD l) = true := by
  rw [fine_iff]
  exact ⟨rfl, by simp [lD, cD, PyData.depth, PyData.depthAll]⟩
theorem mem_cD {c : Cell} {S : List Cell} : cD c ∈ S.map cD ↔ c ∈ S := by
  rw [List.mem_map]
  constructor
  · rintro ⟨a, h1, h2⟩
    rw [← cD_inj h2]
    exact h1
  · exact fun h => ⟨c, h, rfl⟩
theorem mem_lD {c : Cell × Cell} {S : List (Cell × Cell)} : lD c ∈ S.map lD ↔ c ∈ S := by
  rw [List.mem_map]
  constructor
  · rintro ⟨a, h1, h2⟩
    rw [← lD_inj h2]
    exact h1
  · exact fun h => ⟨c, h, rfl⟩
theorem fines_cD (S : List Cell) : ∀ x ∈ S.map cD, fine x = true := fun x hx => by
  obtain ⟨c, _, rfl⟩ := List.mem_map.mp hx
  exact cD_fine c
theorem fines_lD (S : List (Cell × Cell)) : ∀ x ∈ S.map lD, fine x = true := fun x hx => by
  obtain ⟨c, _, rfl⟩ := List.mem_map.mp hx
  exact lD_fine c
theorem in_cD (neg : Bool) (c : Cell) (S : List Cell) : inS neg (cD c) (.list (S.map cD)) = some (.d (.bool (if neg then !decide (c ∈ S) else decide (c ∈ S)))) := by
  exact inS_fine (decide_eq_true_iff.trans mem_cD.symm) (cD_fine c) (fines_cD S)
theorem in_lD (neg : Bool) (c : Cell × Cell) (S : List (Cell × Cell)) : inS neg (lD c) (.list (S.map lD)) = some (.d (.bool (if neg then !decide (c ∈ S) else decide (c ∈ S)))) := by
  exact inS_fine (decide_eq_true_iff.trans mem_lD.symm) (lD_fine c) (fines_lD S)
/-- the four neighbours of a cell -/
def nears (c : Cell) : List Cell := [(c.1, c.2 + 1), (c.1 + 1, c.2), (c.1, c.2 - 1), (c.1 - 1, c.2)]
theorem nears_symm {a b : Cell} (h : b ∈ nears a) : a ∈ nears b := by
  obtain ⟨x, y⟩ := a
  obtain ⟨u, v⟩ := b
  unfold nears at h ⊢
  simp only [List.mem_cons, Prod.mk.injEq, List.not_mem_nil, or_false] at h ⊢
  omega
theorem nears_ne {a b : Cell} (h : b ∈ nears a) : b ≠ a := by
  rintro rfl
  obtain ⟨x, y⟩ := b
  unfold nears at h
  simp only [List.mem_cons, Prod.mk.injEq, List.not_mem_nil, or_false] at h
  omega
/-- the spots and the links so far -/
structure GridI (m : Nat) (S : List Cell) (L : List (Cell × Cell)) : Prop where
  nd : S.Nodup
  ne : S ≠ []
  le : S.length ≤ m
  mem : ∀ l ∈ L, l.1 ∈ S ∧ l.2 ∈ S
  near : ∀ l ∈ L, l.2 ∈ nears l.1
  symm : ∀ a b, (a, b) ∈ L → (b, a) ∈ L
  all : 2 ≤ S.length → ∀ s ∈ S, ∃ t, (s, t) ∈ L
theorem GridI.add {m : Nat} {S : List Cell} {L : List (Cell × Cell)} (h : GridI m S L) {c o : Cell} (hc : c ∈ S) (hn : o ∈ nears c) (hm : o ∈ S ∨ S.length < m) :
    GridI m (if o ∈ S then S else S ++ [o]) (if (c, o) ∈ L then L else L ++ [(c, o)] ++ [(o, c)]) := by
  have sub : ∀ x, x ∈ S → x ∈ (if o ∈ S then S else S ++ [o]) := fun x hx => by
    split
    · exact hx
    · exact List.mem_append_left _ hx
  have ho : o ∈ (if o ∈ S then S else S ++ [o]) := by
    split
    · assumption
    · exact List.mem_append_right _ (List.mem_singleton.mpr rfl)
  have subL : ∀ x, x ∈ L → x ∈ (if (c, o) ∈ L then L else L ++ [(c, o)] ++ [(o, c)]) := fun x hx => by
    split
    · exact hx
    · exact List.mem_append_left _ (List.mem_append_left _ hx)
  have inL : ∀ x, x ∈ (if (c, o) ∈ L then L else L ++ [(c, o)] ++ [(o, c)]) → x ∈ L ∨ x = (c, o) ∨ x = (o, c) := fun x hx => by
    split at hx
    · exact .inl hx
    · rcases List.mem_append.mp hx with z | z
      · rcases List.mem_append.mp z with z | z
        · exact .inl z
        · exact .inr (.inl (List.mem_singleton.mp z))
      · exact .inr (.inr (List.mem_singleton.mp z))
  have both : (c, o) ∈ (if (c, o) ∈ L then L else L ++ [(c, o)] ++ [(o, c)]) ∧ (o, c) ∈ (if (c, o) ∈ L then L else L ++ [(c, o)] ++ [(o, c)]) := by
    split
    · next z => exact ⟨z, h.symm _ _ z⟩
    · simp
  refine ⟨?_, ?_, ?_, fun l hl => ?_, fun l hl => ?_, fun a b hl => ?_, fun _ s hs => ?_⟩
  · split
    · exact h.nd
    · next z =>
      rw [List.nodup_append]
      exact ⟨h.nd, by simp, fun a ha b hb => by
        rw [List.mem_singleton.mp hb]
        rintro rfl
        exact z ha⟩
  · split
    · exact h.ne
    · simp
  · split
    · exact h.le
    · next z =>
      rcases hm with hm | hm
      · exact absurd hm z
      · rw [List.length_append, List.length_singleton]
        exact hm
  · rcases inL l hl with z | rfl | rfl
    · exact ⟨sub _ (h.mem l z).1, sub _ (h.mem l z).2⟩
    · exact ⟨sub _ hc, ho⟩
    · exact ⟨ho, sub _ hc⟩
  · rcases inL l hl with z | rfl | rfl
    · exact h.near l z
    · exact hn
    · exact nears_symm hn
  · rcases inL _ hl with z | z | z
    · exact subL _ (h.symm a b z)
    · cases z
      exact both.2
    · cases z
      exact both.1
  · by_cases h2 : 2 ≤ S.length
    · by_cases e : s = o
      · rw [e]
        exact ⟨c, both.2⟩
      · have : s ∈ S := by
          split at hs
          · exact hs
          · rcases List.mem_append.mp hs with z | z
            · exact z
            · exact absurd (List.mem_singleton.mp z) e
        obtain ⟨t, ht⟩ := h.all h2 s this
        exact ⟨t, subL _ ht⟩
    · have h1 : S.length = 1 := by
        have : 0 < S.length := List.length_pos_iff.mpr h.ne
        omega
      obtain ⟨x, hx⟩ := List.length_eq_one_iff.mp h1
      rw [hx, List.mem_singleton] at hc
      have : s = c ∨ s = o := by
        split at hs
        · rw [hx, List.mem_singleton] at hs
          exact .inl (hs.trans hc.symm)
        · rcases List.mem_append.mp hs with z | z
          · rw [hx, List.mem_singleton] at z
            exact .inl (z.trans hc.symm)
          · exact .inr (List.mem_singleton.mp z)
      rcases this with rfl | rfl
      · exact ⟨o, both.1⟩
      · exact ⟨c, both.2⟩
end K28
/-! k28 in plain Lean: _law_grid -/
namespace K28
open PySem hiding Env
open PyProof.Rows L2 HD G
theorem mul_ok {i j : Int} (hi : i.natAbs < 2 ^ 64) (hj : j.natAbs < 2 ^ 64) : mulD (.int i) (.int j) = some (.d (.int (i * j))) := by
  have lg : ∀ n : Nat, n < 2 ^ 64 → n.log2 < 64 := fun n h => by
    by_cases z : n = 0
    · rw [z]
      decide
    · exact (Nat.log2_lt z).mpr h
  have h1 := lg _ hi
  have h2 := lg _ hj
  exact if_pos (show i.natAbs.log2 + j.natAbs.log2 < 1000000 by omega)
theorem E_rng1 {ms : List (Mi Val)} {ρ : G.Env} {Q : List PyData → G.Env → Prop} (h : E (mArgs ms) ρ fun as ρ1 => ∃ j : Int, datAll as = some [.int j] ∧ (-(2 ^ 62) ≤ j ∧ j < 2 ^ 62) ∧ Q (intsFrom 0 j.toNat) ρ1) : E (mRng1 ms) ρ Q := by
  obtain ⟨as, ρ1, h1, j, h2, h3, q⟩ := h
  refine ⟨_, _, ?_, q⟩
  unfold mRng1
  rw [h1]
  show ((datAll as).bind fun xs => match xs with
    | [.int j] => if -(2 ^ 62) ≤ j ∧ j < 2 ^ 62 then some (intsFrom 0 j.toNat, ρ1) else none
    | _ => none) = _
  rw [h2]
  exact if_pos h3
theorem E_chain {f g : PyData → PyData → Option Res} {ma mb mc : Mi Val} {ρ : G.Env} {Q : Val → G.Env → Prop} (h : E (fz ma) ρ fun a ρ1 => E (fz mb) ρ1 fun b ρ2 => ∃ x y c, a.res ρ2 = some x ∧ b.res ρ2 = some y ∧ f x y = some (.d (.bool c)) ∧
    if c = true then E (fz mc) ρ2 fun c ρ3 => ∃ y z o, b.res ρ3 = some y ∧ c.res ρ3 = some z ∧ g y z = some o ∧ Q o.val ρ3 else Q (.d (.bool false)) ρ2) : E (mChain f g ma mb mc) ρ Q := by
  obtain ⟨a, ρ1, h1, b, ρ2, h2, x, y, c, h3, h4, h5, q⟩ := h
  unfold E mChain
  rw [h1]
  show ∃ a' ρ', ((fz mb ρ1).bind _) = some (a', ρ') ∧ Q a' ρ'
  rw [h2]
  show ∃ a' ρ', ((a.res ρ2).bind _) = some (a', ρ') ∧ Q a' ρ'
  rw [h3]
  show ∃ a' ρ', ((b.res ρ2).bind _) = some (a', ρ') ∧ Q a' ρ'
  rw [h4]
  show ∃ a' ρ', ((f x y).bind _) = some (a', ρ') ∧ Q a' ρ'
  rw [h5]
  cases c with
  | false =>
    rw [if_neg (by decide)] at q
    exact ⟨_, _, rfl, q⟩
  | true =>
    rw [if_pos rfl] at q
    obtain ⟨cc, ρ3, h6, y', z, o, h7, h8, h9, q⟩ := q
    refine ⟨_, _, ?_, q⟩
    show ((fz mc ρ2).bind fun c => (b.res c.2).bind fun y => (c.1.res c.2).bind fun z => (g y z).map fun o => (o.val, c.2)) = _
    rw [h6]
    show ((b.res ρ3).bind fun y => (cc.res ρ3).bind fun z => (g y z).map fun o => (o.val, ρ3)) = _
    rw [h7]
    show ((cc.res ρ3).bind fun z => (g y' z).map fun o => (o.val, ρ3)) = _
    rw [h8]
    show ((g y' z).map fun o => (o.val, ρ3)) = _
    rw [h9]
    rfl
/-- the slots of _law_grid -/
def gst (k : Nat) (o : Ob) (w h m : Int) (S : List Cell) (L : List (Cell × Cell)) (a b c d e f : Sl) : G.Env := [.par k o, .dat (.int w), .dat (.int h), .dat (.int m), .own (.lst (S.map cD)), .own (.lst (L.map lD)), a, b, c, d, e, f, .non, .non]
/-- nothing, or data -/
def DatSl (s : Sl) : Prop := s = .non ∨ ∃ d, s = .dat d
def GrI (k : Nat) (w h m : Int) (i : Nat) (ρ : G.Env) : Prop := ∃ o S L a b c d e f, ρ = gst k o w h m S L a b c d e f ∧ GoodP o ∧ GridI m.toNat S L ∧ L.length ≤ 2 * i ∧ DatSl f
/-- the loop's body -/
def grBody : Ms := (mSeq (mAsg (tgT [(tgN 7), (tgN 8)]) (m2 ixD (mVar 4) (mCall m_law_take [(mVar 0), (mN lenD [(mVar 4)])])))
  (mSeq (mAsg (tgT [(tgN 9), (tgN 10)]) (m2 ixD (mLst [(mTup [(mC (.int 0)), (mC (.int 1))]), (mTup [(mC (.int 1)), (mC (.int 0))]), (mTup [(mC (.int 0)), (m1 negD (mC (.int 1)))]), (mTup [(m1 negD (mC (.int 1))), (mC (.int 0))])]) (mCall m_law_take [(mVar 0), (mC (.int 4))])))
  (mSeq (mSet 11 (mTup [(m2 addD (mVar 7) (mVar 9)), (m2 addD (mVar 8) (mVar 10))]))
  (mIf (mAnd (mtst (mChain leD (lt2 false) (mC (.int 0)) (m2 ixD (mVar 11) (mC (.int 0))) (mVar 1))) (mAnd (mtst (mChain leD (lt2 false) (mC (.int 0)) (m2 ixD (mVar 11) (mC (.int 1))) (mVar 2))) (mOr (mtst (m2 (inS false) (mVar 11) (mVar 4))) (mtst (m2 (lt2 false) (mN lenD [(mVar 4)]) (mVar 3))))))
    (mSeq (mIf (mtst (m2 (inS true) (mVar 11) (mVar 4)))
    (mExp (mMeth "list" obAppend 4 [(mVar 11)]))
    mNil)
  (mIf (mtst (m2 (inS true) (mTup [(mTup [(mVar 7), (mVar 8)]), (mVar 11)]) (mVar 5)))
    (mSeq (mExp (mMeth "list" obAppend 5 [(mTup [(mTup [(mVar 7), (mVar 8)]), (mVar 11)])]))
  (mExp (mMeth "list" obAppend 5 [(mTup [(mVar 11), (mTup [(mVar 7), (mVar 8)])])])))
    mNil))
    mNil))))
theorem grBody_ok {k : Nat} {w h m : Int} (hm : 0 < m ∧ m ≤ 40) {o : Ob} {S : List Cell} {L : List (Cell × Cell)} {i : Nat} (hi : i < 240) {a b c d e f : Sl} (hg : GoodP o) (hG : GridI m.toNat S L) (hL : L.length ≤ 2 * i) :
    WS grBody (gst k o w h m S L a b c d e f) fun o => ∃ ρ, o = .nx ρ ∧ GrI k w h m (i + 1) ρ := by
  have hS : S.length ≤ 40 := Nat.le_trans hG.le (by omega)
  have hS0 : 0 < S.length := List.length_pos_iff.mpr hG.ne
  refine WS_seq (WS_asg (E_fzd (E_m2 (.keep (a := .b 4) rfl (E_fzd (E_take (many := ((S.map cD).length : Int)) (.inr ⟨k, rfl⟩) hg rfl (by rw [List.length_map]; omega) (by rw [List.length_map]; omega) fun r o1 r0 r1 hg1 => ⟨_, rfl, ?_⟩))))))
  obtain ⟨s, hs, e1, _⟩ := ix_drawn r0 r1
  refine ⟨_, _, _, rfl, rfl, e1, _, rfl, _, _, rfl, rfl, ?_⟩
  show WS _ (gst k o1 w h m S L a (.dat (.int s.1)) (.dat (.int s.2)) d e f) _
  refine WS_seq (WS_asg (E_fzd (E_m2 (.keep (a := .d (.list (([(0, 1), (1, 0), (0, -1), (-1, 0)] : List Cell).map cD))) rfl (E_fzd (E_take (many := 4) (.inr ⟨k, rfl⟩) hg1 rfl (by decide) (by decide) fun r o2 r0 r1 hg2 => ⟨_, rfl, ?_⟩))))))
  obtain ⟨t, ht, e2, _⟩ := ix_drawn (xs := ([(0, 1), (1, 0), (0, -1), (-1, 0)] : List Cell)) (f := cD) r0 r1
  refine ⟨_, _, _, rfl, rfl, e2, _, rfl, _, _, rfl, rfl, ?_⟩
  show WS _ (gst k o2 w h m S L a (.dat (.int s.1)) (.dat (.int s.2)) (.dat (.int t.1)) (.dat (.int t.2)) f) _
  refine WS_seq (WS_set (.keep (a := .d (cD (s.1 + t.1, s.2 + t.2))) rfl ⟨_, rfl, ?_⟩))
  have hn : (s.1 + t.1, s.2 + t.2) ∈ nears s := by
    simp only [List.mem_cons, List.not_mem_nil, or_false] at ht
    unfold nears
    rcases ht with rfl | rfl | rfl | rfl <;> simp [Int.sub_eq_add_neg]
  generalize (s.1 + t.1, s.2 + t.2) = q at hn ⊢
  show WS _ (gst k o2 w h m S L a (.dat (.int s.1)) (.dat (.int s.2)) (.dat (.int t.1)) (.dat (.int t.2)) (.dat (cD q))) _
  have skip : ∃ ρ, Out.nx (gst k o2 w h m S L a (.dat (.int s.1)) (.dat (.int s.2)) (.dat (.int t.1)) (.dat (.int t.2)) (.dat (cD q))) = .nx ρ ∧ GrI k w h m (i + 1) ρ := ⟨_, rfl, o2, S, L, _, _, _, _, _, _, rfl, hg2, hG, by omega, .inr ⟨_, rfl⟩⟩
  have l4 : slotOb (gst k o2 w h m S L a (.dat (.int s.1)) (.dat (.int s.2)) (.dat (.int t.1)) (.dat (.int t.2)) (.dat (cD q))) 4 = some (.lst (S.map cD)) := rfl
  -- the inner part, given that the other cell may be taken
  have inner : (q ∈ S ∨ S.length < m.toNat) → WS (mSeq (mIf (mtst (m2 (inS true) (mVar 11) (mVar 4)))
    (mExp (mMeth "list" obAppend 4 [(mVar 11)]))
    mNil)
  (mIf (mtst (m2 (inS true) (mTup [(mTup [(mVar 7), (mVar 8)]), (mVar 11)]) (mVar 5)))
    (mSeq (mExp (mMeth "list" obAppend 5 [(mTup [(mTup [(mVar 7), (mVar 8)]), (mVar 11)])]))
  (mExp (mMeth "list" obAppend 5 [(mTup [(mVar 11), (mTup [(mVar 7), (mVar 8)])])])))
    mNil)) (gst k o2 w h m S L a (.dat (.int s.1)) (.dat (.int s.2)) (.dat (.int t.1)) (.dat (.int t.2)) (.dat (cD q))) fun o => ∃ ρ, o = .nx ρ ∧ GrI k w h m (i + 1) ρ := fun hq => by
    have hA := hG.add hs hn hq
    have step2 : ∀ S', (S' = if q ∈ S then S else S ++ [q]) → WS (mIf (mtst (m2 (inS true) (mTup [(mTup [(mVar 7), (mVar 8)]), (mVar 11)]) (mVar 5)))
      (mSeq (mExp (mMeth "list" obAppend 5 [(mTup [(mTup [(mVar 7), (mVar 8)]), (mVar 11)])]))
    (mExp (mMeth "list" obAppend 5 [(mTup [(mVar 11), (mTup [(mVar 7), (mVar 8)])])])))
      mNil) (gst k o2 w h m S' L a (.dat (.int s.1)) (.dat (.int s.2)) (.dat (.int t.1)) (.dat (.int t.2)) (.dat (cD q))) fun o => ∃ ρ, o = .nx ρ ∧ GrI k w h m (i + 1) ρ := fun S' hS' => by
      rw [← hS'] at hA
      refine WS_if (E_tst (E_m2 (.keep (a := .d (lD (s, q))) rfl (.keep (a := .b 5) rfl ⟨_, _, _, rfl, rfl, in_lD true (s, q) L, _, rfl, ?_⟩))))
      by_cases hl : (s, q) ∈ L
      · rw [if_pos hl] at hA
        rw [if_neg (by simp [hl])]
        exact ⟨_, rfl, _, rfl, o2, S', L, _, _, _, _, _, _, rfl, hg2, hA, by omega, .inr ⟨_, rfl⟩⟩
      · rw [if_neg hl] at hA
        rw [if_pos (by simp [hl])]
        refine WS_seq (WS_exp (E_append (l0 := L.map lD) rfl (.keep (a := .d (lD (s, q))) rfl ⟨_, L.map lD, rfl, rfl, ?_, ?_⟩)))
        · rw [List.length_map]
          exact Nat.lt_of_le_of_lt (by omega : L.length ≤ 480) (by decide)
        show WS _ _ _
        refine WS_exp (E_append (l0 := L.map lD ++ [lD (s, q)]) rfl (.keep (a := .d (lD (q, s))) rfl ⟨_, L.map lD ++ [lD (s, q)], rfl, rfl, ?_, ?_⟩))
        · rw [List.length_append, List.length_map, List.length_singleton]
          exact Nat.lt_of_le_of_lt (by omega : L.length + 1 ≤ 481) (by decide)
        refine ⟨_, rfl, o2, S', L ++ [(s, q)] ++ [(q, s)], a, .dat (.int s.1), .dat (.int s.2), .dat (.int t.1), .dat (.int t.2), .dat (cD q), ?_, hg2, hA, ?_, .inr ⟨_, rfl⟩⟩
        · unfold gst
          rw [List.map_append, List.map_append]
          rfl
        · rw [List.length_append, List.length_append, List.length_singleton, List.length_singleton]
          omega
    refine WS_seq (WS_if (E_tst (E_m2 (.keep (a := .d (cD q)) rfl (.keep (a := .b 4) rfl ⟨_, _, _, rfl, rfl, in_cD true q S, _, rfl, ?_⟩)))))
    by_cases hqS : q ∈ S
    · rw [if_neg (by simp [hqS])]
      exact ⟨_, rfl, step2 S (if_pos hqS).symm⟩
    · rw [if_pos (by simp [hqS])]
      refine WS_exp (E_append (l0 := S.map cD) rfl (.keep (a := .d (cD q)) rfl ⟨_, S.map cD, rfl, rfl, ?_, ?_⟩))
      · rw [List.length_map]
        exact Nat.lt_of_le_of_lt hS (by decide)
      have := step2 (S ++ [q]) (if_neg hqS).symm
      rw [gst, List.map_append] at this
      exact this
  refine WS_if (E_and (E_tst (E_chain (.keep (a := .d (.int 0)) rfl (.keep (a := .d (.int q.1)) rfl ⟨_, _, decide (0 ≤ q.1), rfl, rfl, rfl, ?_⟩)))))
  by_cases c1 : 0 ≤ q.1
  · rw [if_pos (decide_eq_true c1)]
    refine .keep (a := .d (.int w)) rfl ⟨_, _, .d (.bool (decide (q.1 < w))), rfl, rfl, rfl, _, rfl, ?_⟩
    by_cases c2 : q.1 < w
    · rw [if_pos (decide_eq_true c2)]
      refine E_and (E_tst (E_chain (.keep (a := .d (.int 0)) rfl (.keep (a := .d (.int q.2)) rfl ⟨_, _, decide (0 ≤ q.2), rfl, rfl, rfl, ?_⟩))))
      by_cases c3 : 0 ≤ q.2
      · rw [if_pos (decide_eq_true c3)]
        refine .keep (a := .d (.int h)) rfl ⟨_, _, .d (.bool (decide (q.2 < h))), rfl, rfl, rfl, _, rfl, ?_⟩
        by_cases c4 : q.2 < h
        · rw [if_pos (decide_eq_true c4)]
          refine E_or (E_tst (E_m2 (.keep (a := .d (cD q)) rfl (.keep (a := .b 4) rfl ⟨_, _, _, rfl, rfl, in_cD false q S, _, rfl, ?_⟩))))
          by_cases c5 : q ∈ S
          · rw [if_pos (by simp [c5]), if_pos rfl]
            exact inner (.inl c5)
          · rw [if_neg (by simp [c5])]
            refine E_tst (E_m2 (.keep (a := .d (.int ((S.map cD).length : Int))) rfl (.keep (a := .d (.int m)) rfl ⟨_, _, .d (.bool (decide (((S.map cD).length : Int) < m))), rfl, rfl, rfl, _, rfl, ?_⟩)))
            by_cases c6 : ((S.map cD).length : Int) < m
            · rw [if_pos (decide_eq_true c6)]
              rw [List.length_map] at c6
              exact inner (.inr (by omega))
            · rw [if_neg (by simpa using c6)]
              exact ⟨_, rfl, skip⟩
        · rw [if_neg (by simp [c4]), if_neg (by decide)]
          exact ⟨_, rfl, skip⟩
      · rw [if_neg (by simp [c3])]
        exact ⟨false, rfl, by rw [if_neg (by decide), if_neg (by decide)]; exact ⟨_, rfl, skip⟩⟩
    · rw [if_neg (by simp [c2]), if_neg (by decide)]
      exact ⟨_, rfl, skip⟩
  · rw [if_neg (by simp [c1])]
    exact ⟨false, rfl, by rw [if_neg (by decide), if_neg (by decide)]; exact ⟨_, rfl, skip⟩⟩
end K28
/-! k28 in plain Lean: _law_grid, its table -/
namespace K28
open PySem hiding Env
open PyProof.Rows L2 HD G
def nk (c : Cell) : NestedKey := .tup [.num c.1, .num c.2]
theorem kn_cell : KN cD nk := by
  refine ⟨fun a b h => ?_, fun a => rfl, fun a => rfl, fun a => ⟨_, rfl, ?_⟩⟩
  · unfold nk at h
    simp at h
    exact Prod.ext h.1 h.2
  · simp [NestedKey.depth, NestedKey.depthAll]
abbrev Tab := List (Cell × List Cell)
def vR (r : List Cell) : PyData := .list (r.map cD)
/-- a table in order: cells that name each other -/
structure GoodT (T : Tab) : Prop where
  nd : (T.map (·.1)).Nodup
  two : 2 ≤ T.length
  le : T.length ≤ 40
  row : ∀ c r, (c, r) ∈ T → r.Nodup ∧ r ≠ [] ∧ r.length ≤ 4 ∧ c ∉ r
  symm : ∀ c r, (c, r) ∈ T → ∀ d ∈ r, ∃ r', (d, r') ∈ T ∧ c ∈ r'
def rowOf (L : List (Cell × Cell)) (c : Cell) : List Cell := (nears c).filter fun d => decide ((c, d) ∈ L)
def tabOf (L : List (Cell × Cell)) (S : List Cell) : Tab := S.map fun c => (c, rowOf L c)
theorem nears_nodup (c : Cell) : (nears c).Nodup := by
  obtain ⟨x, y⟩ := c
  unfold nears
  simp only [List.nodup_cons, List.mem_cons, Prod.mk.injEq, List.not_mem_nil, or_false, not_or, List.nodup_nil, and_true, not_false_eq_true]
  omega
theorem tabOf_mem {L : List (Cell × Cell)} {S : List Cell} {c : Cell} {r : List Cell} : (c, r) ∈ tabOf L S ↔ c ∈ S ∧ r = rowOf L c := by
  unfold tabOf
  rw [List.mem_map]
  constructor
  · rintro ⟨a, h1, h2⟩
    cases h2
    exact ⟨h1, rfl⟩
  · rintro ⟨h1, rfl⟩
    exact ⟨c, h1, rfl⟩
theorem tabOf_good {m : Nat} {S : List Cell} {L : List (Cell × Cell)} (h : GridI m S L) (h2 : 2 ≤ S.length) (hm : m ≤ 40) : GoodT (tabOf L S) := by
  have keys : (tabOf L S).map (·.1) = S := by
    unfold tabOf
    rw [List.map_map]
    exact List.map_id' _
  have mem : ∀ c d, d ∈ rowOf L c ↔ d ∈ nears c ∧ (c, d) ∈ L := fun c d => by
    unfold rowOf
    rw [List.mem_filter, decide_eq_true_iff]
  refine ⟨by rw [keys]; exact h.nd, by unfold tabOf; rw [List.length_map]; exact h2, by unfold tabOf; rw [List.length_map]; exact Nat.le_trans h.le hm, fun c r hr => ?_, fun c r hr d hd => ?_⟩
  · obtain ⟨hc, rfl⟩ := tabOf_mem.mp hr
    refine ⟨(nears_nodup c).filter _, fun z => ?_, Nat.le_trans (List.length_filter_le _ _) (by unfold nears; simp), fun z => ?_⟩
    · obtain ⟨t, ht⟩ := h.all h2 c hc
      have : t ∈ rowOf L c := (mem c t).mpr ⟨h.near _ ht, ht⟩
      rw [z] at this
      cases this
    · exact nears_ne ((mem c c).mp z).1 rfl
  · obtain ⟨hc, rfl⟩ := tabOf_mem.mp hr
    obtain ⟨h3, h4⟩ := (mem c d).mp hd
    exact ⟨_, tabOf_mem.mpr ⟨(h.mem _ h4).2, rfl⟩, (mem d c).mpr ⟨nears_symm h3, h.symm _ _ h4⟩⟩
theorem filterMap_if {α β : Type} {p : α → Prop} [DecidablePred p] {f : α → β} (xs : List α) : (xs.filterMap fun x => if p x then some (f x) else none) = (xs.filter fun x => decide (p x)).map f := by
  induction xs with
  | nil => rfl
  | cons x xs ih =>
    by_cases h : p x
    · rw [List.filterMap_cons, if_pos h, List.filter_cons_of_pos (by simpa using h), List.map_cons, ih]
    · rw [List.filterMap_cons, if_neg h, List.filter_cons_of_neg (by simpa using h), ih]
/-- what follows the loop of _law_grid -/
def grTail : Ms := (mSeq (mSetO 12 (mDNew (.dN [])))
  (mSeq (mFrz 4 (mFor (mSrc (mVar 4)) (tgT [(tgN 7), (tgN 8)])
    (mSeq (mSet 13 (mLst [(mTup [(mVar 7), (m2 addD (mVar 8) (mC (.int 1)))]), (mTup [(m2 addD (mVar 7) (mC (.int 1))), (mVar 8)]), (mTup [(mVar 7), (m2 subD (mVar 8) (mC (.int 1)))]), (mTup [(m2 subD (mVar 7) (mC (.int 1))), (mVar 8)])]))
  (mPut 12 (mTup [(mVar 7), (mVar 8)]) (mLc (mSrc (mVar 13)) (tgN 11) (mtst (m2 (inS false) (mTup [(mTup [(mVar 7), (mVar 8)]), (mVar 11)]) (mVar 5))) (mVar 11) [11])))))
  (mRetO (mVar 12))))
theorem putA_new {α β : Type} [DecidableEq α] {T : List (α × β)} {a : α} {b : β} (h : a ∉ T.map (·.1)) : putA T a b = T ++ [(a, b)] := by
  unfold putA
  rw [if_neg fun z => h (lookA_isSome.mp z)]
theorem grTail_ok {k : Nat} {o : Ob} {w h m : Int} {S : List Cell} {L : List (Cell × Cell)} {a b c d e f : Sl} {Q : Out → Prop} (hf : DatSl f) (nd : S.Nodup) (hS : S.length ≤ 40)
    (q : ∀ b c g', Q (.ro (.dN (tab nk vR (tabOf L S))) [.par k o, .dat (.int w), .dat (.int h), .dat (.int m), .dat (.list (S.map cD)), .own (.lst (L.map lD)), a, b, c, d, e, f, .non, g'])) : WS grTail (gst k o w h m S L a b c d e f) Q := by
  refine WS_seq (WS_setO (.keep (a := .fr (.dN [])) rfl ⟨_, rfl, ?_⟩))
  refine WS_seq (WS_frz ⟨.lst (S.map cD), .list (S.map cD), rfl, rfl, ?_⟩)
  show WS _ [.par k o, .dat (.int w), .dat (.int h), .dat (.int m), .dat (.list (S.map cD)), .own (.lst (L.map lD)), a, b, c, d, e, f, .own (.dN []), .non] _
  refine WS_for (E_src (.keep (a := .d (.list (S.map cD))) rfl ⟨S.map cD, .inl rfl, fun i ρ => ∃ b c g', ρ = [.par k o, .dat (.int w), .dat (.int h), .dat (.int m), .dat (.list (S.map cD)), .own (.lst (L.map lD)), a, b, c, d, e, f, .own (.dN (tab nk vR (tabOf L (S.take i)))), g'], ?_, ?_, ?_⟩))
  · exact ⟨_, _, _, rfl⟩
  · rintro i x ρ hx ⟨b, c, g', rfl⟩
    rw [List.getElem?_map] at hx
    obtain ⟨s, hs, rfl⟩ := Option.map_eq_some_iff.mp hx
    obtain ⟨hi, hs2⟩ := List.getElem?_eq_some_iff.mp hs
    refine ⟨_, rfl, ?_⟩
    show WS _ [.par k o, .dat (.int w), .dat (.int h), .dat (.int m), .dat (.list (S.map cD)), .own (.lst (L.map lD)), a, .dat (.int s.1), .dat (.int s.2), d, e, f, .own (.dN (tab nk vR (tabOf L (S.take i)))), g'] _
    refine WS_seq (WS_set (.keep (a := .d (.list ((nears s).map cD))) rfl ⟨_, rfl, ?_⟩))
    show WS _ [.par k o, .dat (.int w), .dat (.int h), .dat (.int m), .dat (.list (S.map cD)), .own (.lst (L.map lD)), a, .dat (.int s.1), .dat (.int s.2), d, e, f, .own (.dN (tab nk vR (tabOf L (S.take i)))), .dat (.list ((nears s).map cD))] _
    refine WS_put (E_fz (E_lc cD (fun t => if (s, t) ∈ L then some (cD t) else none) (E_src (.keep (a := .d (.list ((nears s).map cD))) rfl ⟨_, .inl rfl, nears s, rfl, ?_, ?_, ?_, ?_⟩))))
    · intro t ht
      refine ⟨_, rfl, E_tst (E_m2 (.keep (a := .d (lD (s, t))) rfl (.keep (a := .b 5) rfl ⟨_, _, _, rfl, rfl, in_lD false (s, t) L, _, rfl, ?_⟩)))⟩
      by_cases hl : (s, t) ∈ L
      · rw [if_pos (by simp [hl])]
        refine .keep (a := .d (cD t)) rfl ⟨_, rfl, if_pos hl, rfl⟩
      · rw [if_neg (by simp [hl])]
        exact ⟨if_neg hl, rfl⟩
    · exact Nat.lt_of_le_of_lt (show (nears s).length ≤ 4 by unfold nears; simp) (by decide)
    · intro v hv
      rw [List.mem_singleton.mp hv]
      rcases hf with rfl | ⟨y, rfl⟩
      · exact .inl rfl
      · exact .inr ⟨y, rfl⟩
    · rw [filterMap_if]
      have hnew : s ∉ (tabOf L (S.take i)).map (·.1) := fun z => by
        obtain ⟨p, h1, h2⟩ := List.mem_map.mp z
        obtain ⟨c', r'⟩ := p
        have h2 : c' = s := h2
        subst h2
        have h3 := (tabOf_mem.mp h1).1
        obtain ⟨j, hj⟩ := List.getElem?_of_mem h3
        have hji : j < i := by
          have := (List.getElem?_eq_some_iff.mp hj).1
          rw [List.length_take] at this
          omega
        rw [List.getElem?_take_of_lt hji] at hj
        obtain ⟨hjl, hj2⟩ := List.getElem?_eq_some_iff.mp hj
        exact List.pairwise_iff_getElem.mp nd j i hjl hi hji (hj2.trans hs2.symm)
      have hlen : (tabOf L (S.take i)).length < LIM := by
        unfold tabOf
        rw [List.length_map, List.length_take]
        exact Nat.lt_of_le_of_lt (by omega : min i S.length ≤ 40) (by decide)
      have hput := kn_cell.put (v := vR) hlen s (rowOf L s)
      refine ⟨_, rfl, rfl, .keep (a := .d (cD s)) rfl ⟨_, _, _, _, rfl, rfl, rfl, hput, ?_⟩⟩
      refine ⟨.dat (.int s.1), .dat (.int s.2), .dat (.list ((nears s).map cD)), ?_⟩
      · rw [putA_new hnew]
        have : tabOf L (S.take (i + 1)) = tabOf L (S.take i) ++ [(s, rowOf L s)] := by
          unfold tabOf
          rw [List.take_succ_eq_append_getElem hi, List.map_append, hs2]
          rfl
        rw [this]
        rfl
  · rintro ρ ⟨b, c, g', rfl⟩
    rw [List.length_map, List.take_length]
    exact WS_retO (.inl ⟨_, rfl, q b c g'⟩)
theorem grid_ok {k : Nat} {o : Ob} {w h m : Int} (hg : GoodP o) (hw : 0 < w ∧ w ≤ 8) (hh : 0 < h ∧ h ≤ 6) (hm : 2 ≤ m ∧ m ≤ 40) :
    ∃ o' T, m_law_grid [.par k o, .dat (.int w), .dat (.int h), .dat (.int m)] = some (.ob (.dN (tab nk vR T)), [.par k o', .dat (.int w), .dat (.int h), .dat (.int m)]) ∧ GoodP o' ∧ GoodT T := by
  have key : ∃ f r, m_law_grid [.par k o, .dat (.int w), .dat (.int h), .dat (.int m)] = some (f, r) ∧ ∃ o' T, f = .ob (.dN (tab nk vR T)) ∧ r = [.par k o', .dat (.int w), .dat (.int h), .dat (.int m)] ∧ GoodP o' ∧ GoodT T := by
    refine fn_of ?_
    show WS b_law_grid [.par k o, .dat (.int w), .dat (.int h), .dat (.int m), .non, .non, .non, .non, .non, .non, .non, .non, .non, .non] _
    refine WS_seq (WS_setO (E_lst (E_cons (E_fzd (E_tup (E_cons (E_fzd (E_take (many := w) (.inr ⟨k, rfl⟩) hg rfl hw.1 (by omega) fun x o1 x0 x1 hg1 => ⟨_, rfl, ?_⟩))))))))
    refine E_cons (E_fzd (E_take (many := h) (.inr ⟨k, rfl⟩) hg1 rfl hh.1 (by omega) fun y o2 y0 y1 hg2 => ⟨_, rfl, E_nil ⟨_, rfl, _, rfl, E_nil ⟨_, rfl, _, rfl, ?_⟩⟩⟩))
    show WS _ [.par k o2, .dat (.int w), .dat (.int h), .dat (.int m), .own (.lst [cD (x, y)]), .non, .non, .non, .non, .non, .non, .non, .non, .non] _
    refine WS_seq (WS_setO (.keep (a := .fr (.lst [])) rfl ⟨_, rfl, ?_⟩))
    show WS _ (gst k o2 w h m [(x, y)] [] .non .non .non .non .non .non) _
    refine WS_seq (WS_for (E_rng1 (E_cons (E_fzd (E_m2 (.keep (a := .d (.int 6)) rfl (.keep (a := .d (.int m)) rfl ⟨_, _, _, rfl, rfl, mul_ok (by decide) (by omega), _, rfl, E_nil ⟨_, rfl, ⟨by omega, by omega⟩, GrI k w h m, ?_, ?_, ?_⟩⟩)))))))
    · refine ⟨o2, [(x, y)], [], _, _, _, _, _, _, rfl, hg2, ?_, Nat.zero_le _, .inl rfl⟩
      exact ⟨by simp, by simp, by show 1 ≤ m.toNat; omega, fun l hl => (nomatch hl), fun l hl => (nomatch hl), fun a b hl => (nomatch hl), fun h2 => by simp at h2⟩
    · rintro i x ρ hx ⟨o3, S, L, a, b, c, d, e, f, rfl, hg3, hG, hL, _⟩
      have hi : i < 240 := by
        have := (List.getElem?_eq_some_iff.mp hx).1
        unfold G.intsFrom at this
        rw [List.length_map, List.length_range] at this
        omega
      refine ⟨_, rfl, ?_⟩
      have := grBody_ok (k := k) (w := w) (h := h) (m := m) (a := .dat x) (b := b) (c := c) (d := d) (e := e) (f := f) ⟨by omega, hm.2⟩ hi hg3 hG hL
      refine this.mono ?_
      rintro o4 ⟨ρ2, rfl, h2⟩
      exact h2
    rintro ρ ⟨o3, S, L, a, b, c, d, e, f, rfl, hg3, hG, hL, hf⟩
    have hm40 : m.toNat ≤ 40 := by omega
    have fin : ∀ S L, GridI m.toNat S L → 2 ≤ S.length → WS grTail (gst k o3 w h m S L a b c d e f) fun o_1 => match o_1 with
        | .nx ρ' => ∃ r, parsBack [Sl.par k o, .dat (.int w), .dat (.int h), .dat (.int m)] ρ' = some r ∧ ∃ o' T, FR.dt .none = .ob (.dN (tab nk vR T)) ∧ r = [.par k o', .dat (.int w), .dat (.int h), .dat (.int m)] ∧ GoodP o' ∧ GoodT T
        | .rt d ρ' => ∃ r, parsBack [Sl.par k o, .dat (.int w), .dat (.int h), .dat (.int m)] ρ' = some r ∧ ∃ o' T, FR.dt d = .ob (.dN (tab nk vR T)) ∧ r = [.par k o', .dat (.int w), .dat (.int h), .dat (.int m)] ∧ GoodP o' ∧ GoodT T
        | .ro ob ρ' => ∃ r, parsBack [Sl.par k o, .dat (.int w), .dat (.int h), .dat (.int m)] ρ' = some r ∧ ∃ o' T, FR.ob ob = .ob (.dN (tab nk vR T)) ∧ r = [.par k o', .dat (.int w), .dat (.int h), .dat (.int m)] ∧ GoodP o' ∧ GoodT T
        | .rp k_1 ρ' => ∃ r, parsBack [Sl.par k o, .dat (.int w), .dat (.int h), .dat (.int m)] ρ' = some r ∧ ∃ o' T, FR.pa k_1 = .ob (.dN (tab nk vR T)) ∧ r = [.par k o', .dat (.int w), .dat (.int h), .dat (.int m)] ∧ GoodP o' ∧ GoodT T
        | _ => False := fun S L hG h2 => by
      refine grTail_ok hf hG.nd (Nat.le_trans hG.le hm40) fun b c g' => ?_
      refine ⟨[.par k o3, .dat (.int w), .dat (.int h), .dat (.int m)], ?_, o3, _, rfl, rfl, hg3, tabOf_good hG h2 hm40⟩
      rw [parsBack, if_pos rfl]
      rfl
    refine WS_seq (WS_if (E_tst (E_m2 (.keep (a := .d (.int ((S.map cD).length : Int))) rfl (.keep (a := .d (.int 2)) rfl ⟨_, _, .d (.bool (decide (((S.map cD).length : Int) < 2))), rfl, rfl, rfl, _, rfl, ?_⟩)))))
    by_cases h2 : ((S.map cD).length : Int) < 2
    · rw [if_pos (decide_eq_true h2)]
      refine WS_seq (WS_setO (.keep (a := .fr (.lst (([(0, 0), (1, 0)] : List Cell).map cD))) rfl ⟨_, rfl, ?_⟩))
      refine WS_setO (.keep (a := .fr (.lst (([((0, 0), (1, 0)), ((1, 0), (0, 0))] : List (Cell × Cell)).map lD))) rfl ⟨_, rfl, ?_⟩)
      refine fin [(0, 0), (1, 0)] [((0, 0), (1, 0)), ((1, 0), (0, 0))] ⟨by decide, by decide, by show 2 ≤ m.toNat; omega, by decide, by decide, ?_, ?_⟩ (by decide)
      · rintro ⟨a1, a2⟩ ⟨b1, b2⟩ hl
        simp only [List.mem_cons, Prod.mk.injEq, List.not_mem_nil, or_false] at hl ⊢
        omega
      · intro _ s hs
        simp only [List.mem_cons, List.not_mem_nil, or_false] at hs
        rcases hs with rfl | rfl
        · exact ⟨(1, 0), by simp⟩
        · exact ⟨(0, 0), by simp⟩
    · rw [if_neg (by simpa using h2)]
      rw [List.length_map] at h2
      exact ⟨_, rfl, fin S L hG (by omega)⟩
  obtain ⟨f, r, h1, o', T, rfl, rfl, h2, h3⟩ := key
  exact ⟨o', T, h1, h2, h3⟩
end K28
/-! k28 in plain Lean: a spot with two ways is smoothed out -/
namespace K28
open PySem hiding Env
open PyProof.Rows L2 HD G
theorem GoodT.look {T : Tab} (h : GoodT T) {c : Cell} {r : List Cell} : lookA T c = some r ↔ (c, r) ∈ T := ⟨lookA_some, lookA_of h.nd⟩
/-- c's place is taken by y -/
def sub (c y : Cell) (r : List Cell) : List Cell := r.map fun d => if d = c then y else d
theorem mem_sub {c y d : Cell} {r : List Cell} : d ∈ sub c y r ↔ (d = y ∧ c ∈ r) ∨ (d ∈ r ∧ d ≠ c) := by
  unfold sub
  rw [List.mem_map]
  constructor
  · rintro ⟨e, h1, h2⟩
    by_cases h : e = c
    · rw [if_pos h] at h2
      exact .inl ⟨h2.symm, by rw [← h]; exact h1⟩
    · rw [if_neg h] at h2
      rw [← h2]
      exact .inr ⟨h1, h⟩
  · rintro (⟨rfl, h⟩ | ⟨h1, h2⟩)
    · exact ⟨c, h, if_pos rfl⟩
    · exact ⟨d, h1, if_neg h2⟩
theorem sub_nodup {c y : Cell} : ∀ {r : List Cell}, r.Nodup → y ∉ r → (sub c y r).Nodup
  | [], _, _ => List.nodup_nil
  | d :: r, h, hy => by
    rw [List.nodup_cons] at h
    rw [List.mem_cons, not_or] at hy
    unfold sub
    rw [List.map_cons, List.nodup_cons]
    refine ⟨fun z => ?_, sub_nodup h.2 hy.2⟩
    have z : (if d = c then y else d) ∈ sub c y r := z
    rw [mem_sub] at z
    by_cases hd : d = c
    · rw [if_pos hd] at z
      rcases z with ⟨_, z⟩ | ⟨z, _⟩
      · exact h.1 (by rw [hd]; exact z)
      · exact hy.2 z
    · rw [if_neg hd] at z
      rcases z with ⟨z, _⟩ | ⟨z, _⟩
      · exact hy.1 z.symm
      · exact h.1 z
theorem two_mem {α : Type} {x y : α} (h : x ≠ y) : ∀ {l : List α}, x ∈ l → y ∈ l → 2 ≤ l.length
  | [], hx, _ => by cases hx
  | [a], hx, hy => by
    rw [List.mem_singleton] at hx hy
    exact absurd (hx.trans hy.symm) h
  | _ :: _ :: _, _, _ => by simp
/-- the table without c, whose two neighbours are x and y -/
def smooth (T : Tab) (c x y : Cell) (rx ry : List Cell) : Tab := dropA (putA (putA T x (sub c y rx)) y (sub c x ry)) c
theorem smooth_look {T : Tab} {c x y : Cell} {rx ry : List Cell} {a : Cell} : lookA (smooth T c x y rx ry) a = if a = c then none else if a = y then some (sub c x ry) else if a = x then some (sub c y rx) else lookA T a := by
  unfold smooth
  rw [lookA_drop, lookA_put, lookA_put]
theorem smooth_keys {T : Tab} {c x y : Cell} {rx ry : List Cell} (hx : x ∈ T.map (·.1)) (hy : y ∈ T.map (·.1)) : (smooth T c x y rx ry).map (·.1) = (T.map (·.1)).filter fun a => decide (a ≠ c) := by
  unfold smooth
  rw [dropA_keys, putA_keys, putA_keys, if_pos hx, if_pos hy]
theorem smooth_good {T : Tab} (h : GoodT T) {c x y : Cell} {rx ry : List Cell} (hc : lookA T c = some [x, y]) (hx : lookA T x = some rx) (hy : lookA T y = some ry) (hn : y ∉ rx) : GoodT (smooth T c x y rx ry) := by
  have mc := h.look.mp hc
  have mx := h.look.mp hx
  have my := h.look.mp hy
  have nxy : x ≠ y := by
    have := (h.row c _ mc).1
    simp at this
    exact this
  have ncx : c ≠ x := fun z => (h.row c _ mc).2.2.2 (by rw [z]; simp)
  have ncy : c ≠ y := fun z => (h.row c _ mc).2.2.2 (by rw [z]; simp)
  have uniq : ∀ {a r r'}, (a, r) ∈ T → (a, r') ∈ T → r = r' := fun {a r r'} h1 h2 => by
    rw [← h.look] at h1 h2
    rw [h1] at h2
    exact Option.some.inj h2
  have cx : c ∈ rx := by
    obtain ⟨r', h1, h2⟩ := h.symm c _ mc x (by simp)
    rw [uniq mx h1]
    exact h2
  have cy : c ∈ ry := by
    obtain ⟨r', h1, h2⟩ := h.symm c _ mc y (by simp)
    rw [uniq my h1]
    exact h2
  have hn2 : x ∉ ry := fun z => by
    obtain ⟨r', h1, h2⟩ := h.symm y _ my x z
    rw [← uniq mx h1] at h2
    exact hn h2
  have keys : (smooth T c x y rx ry).map (·.1) = (T.map (·.1)).filter fun a => decide (a ≠ c) := smooth_keys (lookA_isSome.mp (by rw [hx]; rfl)) (lookA_isSome.mp (by rw [hy]; rfl))
  have nd : ((smooth T c x y rx ry).map (·.1)).Nodup := by
    rw [keys]
    exact h.nd.filter _
  have lk : ∀ {a r}, (a, r) ∈ smooth T c x y rx ry ↔ lookA (smooth T c x y rx ry) a = some r := fun {a r} => ⟨lookA_of nd, lookA_some⟩
  have lkx : lookA (smooth T c x y rx ry) x = some (sub c y rx) := by
    rw [smooth_look, if_neg (fun z => ncx z.symm), if_neg nxy, if_pos rfl]
  have lky : lookA (smooth T c x y rx ry) y = some (sub c x ry) := by
    rw [smooth_look, if_neg (fun z => ncy z.symm), if_pos rfl]
  have lko : ∀ {a}, a ≠ c → a ≠ x → a ≠ y → lookA (smooth T c x y rx ry) a = lookA T a := fun {a} h1 h2 h3 => by
    rw [smooth_look, if_neg h1, if_neg h3, if_neg h2]
  -- what an entry is
  have ent : ∀ {a r}, (a, r) ∈ smooth T c x y rx ry → (a = x ∧ r = sub c y rx) ∨ (a = y ∧ r = sub c x ry) ∨ (a ≠ c ∧ a ≠ x ∧ a ≠ y ∧ (a, r) ∈ T) := fun {a r} hm => by
    have e := lk.mp hm
    by_cases h1 : a = c
    · rw [h1, smooth_look, if_pos rfl] at e
      cases e
    · by_cases h2 : a = x
      · rw [h2, lkx] at e
        exact .inl ⟨h2, (Option.some.inj e).symm⟩
      · by_cases h3 : a = y
        · rw [h3, lky] at e
          exact .inr (.inl ⟨h3, (Option.some.inj e).symm⟩)
        · rw [lko h1 h2 h3] at e
          exact .inr (.inr ⟨h1, h2, h3, h.look.mp e⟩)
  refine ⟨nd, ?_, ?_, fun a r hm => ?_, fun a r hm d hd => ?_⟩
  · have := two_mem nxy (lookA_isSome.mp (by rw [lkx]; rfl)) (lookA_isSome.mp (by rw [lky]; rfl))
    rw [List.length_map] at this
    exact this
  · have := congrArg List.length keys
    rw [List.length_map] at this
    rw [this]
    refine Nat.le_trans (List.length_filter_le _ _) ?_
    rw [List.length_map]
    exact h.le
  · rcases ent hm with ⟨rfl, rfl⟩ | ⟨rfl, rfl⟩ | ⟨_, _, _, hT⟩
    · obtain ⟨r1, r2, r3, r4⟩ := h.row _ _ mx
      refine ⟨sub_nodup r1 hn, by unfold sub; simpa using r2, by unfold sub; rw [List.length_map]; exact r3, fun z => ?_⟩
      rcases mem_sub.mp z with ⟨z, _⟩ | ⟨z, _⟩
      · exact nxy z
      · exact r4 z
    · obtain ⟨r1, r2, r3, r4⟩ := h.row _ _ my
      refine ⟨sub_nodup r1 hn2, by unfold sub; simpa using r2, by unfold sub; rw [List.length_map]; exact r3, fun z => ?_⟩
      rcases mem_sub.mp z with ⟨z, _⟩ | ⟨z, _⟩
      · exact nxy z.symm
      · exact r4 z
    · exact h.row _ _ hT
  · rcases ent hm with ⟨rfl, rfl⟩ | ⟨rfl, rfl⟩ | ⟨n1, n2, n3, hT⟩
    · rcases mem_sub.mp hd with ⟨rfl, _⟩ | ⟨h1, h2⟩
      · exact ⟨_, lk.mpr lky, mem_sub.mpr (.inl ⟨rfl, cy⟩)⟩
      · have d1 : d ≠ a := fun z => (h.row _ _ mx).2.2.2 (by rw [← z]; exact h1)
        have d2 : d ≠ y := fun z => hn (by rw [← z]; exact h1)
        obtain ⟨r', h3, h4⟩ := h.symm _ _ mx d h1
        exact ⟨r', lk.mpr (by rw [lko h2 d1 d2]; exact h.look.mpr h3), h4⟩
    · rcases mem_sub.mp hd with ⟨rfl, _⟩ | ⟨h1, h2⟩
      · exact ⟨_, lk.mpr lkx, mem_sub.mpr (.inl ⟨rfl, cx⟩)⟩
      · have d1 : d ≠ a := fun z => (h.row _ _ my).2.2.2 (by rw [← z]; exact h1)
        have d2 : d ≠ x := fun z => hn2 (by rw [← z]; exact h1)
        obtain ⟨r', h3, h4⟩ := h.symm _ _ my d h1
        exact ⟨r', lk.mpr (by rw [lko h2 d2 d1]; exact h.look.mpr h3), h4⟩
    · obtain ⟨r', h3, h4⟩ := h.symm _ _ hT d hd
      have dc : d ≠ c := fun z => by
        rw [z] at h3
        rw [← uniq mc h3] at h4
        simp only [List.mem_cons, List.not_mem_nil, or_false] at h4
        exact h4.elim n2 n3
      by_cases dx : d = x
      · rw [dx] at h3 ⊢
        rw [← uniq mx h3] at h4
        exact ⟨_, lk.mpr lkx, mem_sub.mpr (.inr ⟨h4, n1⟩)⟩
      · by_cases dy : d = y
        · rw [dy] at h3 ⊢
          rw [← uniq my h3] at h4
          exact ⟨_, lk.mpr lky, mem_sub.mpr (.inr ⟨h4, n1⟩)⟩
        · exact ⟨r', lk.mpr (by rw [lko dc dx dy]; exact h.look.mpr h3), h4⟩
end K28
/-! k28 in plain Lean: _law_smoothed -/
namespace K28
open PySem hiding Env
open PySem.W PyProof.Rows L2 HD G
theorem perm_unmap {α β : Type} {f : α → β} {g : β → α} (hg : ∀ a, g (f a) = a) {l1 : List β} {l2 : List α} (h : l1.Perm (l2.map f)) : ∃ l : List α, l1 = l.map f ∧ l.Perm l2 := by
  refine ⟨l1.map g, ?_, ?_⟩
  · rw [List.map_map]
    refine (List.map_id' l1).symm.trans (List.map_congr_left fun b hb => ?_)
    obtain ⟨a, _, rfl⟩ := List.mem_map.mp (h.mem_iff.mp hb)
    exact congrArg f (hg a).symm
  · have := h.map g
    rw [List.map_map] at this
    have e : l2.map (g ∘ f) = l2 := (List.map_congr_left fun a _ => hg a).trans (List.map_id' l2)
    rwa [e] at this
def uncD : PyData → Cell
  | .tuple [.int a, .int b] => (a, b)
  | _ => (0, 0)
theorem cells_ok (S : List Cell) : okList (S.map cD) := by
  refine ⟨fines_cD S, fun x hx y hy => ?_⟩
  obtain ⟨a, _, rfl⟩ := List.mem_map.mp hx
  obtain ⟨b, _, rfl⟩ := List.mem_map.mp hy
  simp [cD, alike, alikeAll]
theorem sorted_cells (S : List Cell) : ∃ S' : List Cell, sortedD [.list (S.map cD)] = some (.l (S'.map cD)) ∧ S'.Perm S := by
  obtain ⟨S', h1, h2⟩ := perm_unmap (f := cD) (g := uncD) (fun a => rfl) (sortP_perm (S.map cD))
  refine ⟨S', ?_, h2⟩
  show (if okSort (S.map cD) && G.sortable (S.map cD) then some (Res.l (sortP (S.map cD))) else none) = _
  have hs : G.sortable (S.map cD) = true := by
    unfold G.sortable
    rw [Bool.or_eq_true, List.all_eq_true]
    refine .inl fun d hd => ?_
    obtain ⟨a, _, rfl⟩ := List.mem_map.mp hd
    rfl
  rw [(cells_ok S).okSort, hs, h1]
  rfl
theorem E_dget {mo mk : Mi Val} {ρ : G.Env} {Q : Val → G.Env → Prop} (h : E (fz mo) ρ fun a ρ1 => E (fz mk) ρ1 fun b ρ2 => ∃ l k x, a.res ρ2 = some (.dict l) ∧ b = .d k ∧ getD l k = some x ∧ Q (.d x) ρ2) : E (mDGet mo mk) ρ Q := by
  obtain ⟨a, ρ1, h1, b, ρ2, h2, l, k, x, h3, rfl, h4, q⟩ := h
  refine ⟨_, _, ?_, q⟩
  unfold mDGet
  rw [h1]
  show ((fz mk ρ1).bind _) = _
  rw [h2]
  show ((a.res ρ2).bind _) = _
  rw [h3]
  show ((getD l k).map fun x => (Val.d x, ρ2)) = _
  rw [h4]
  rfl
theorem int_fine (i : Int) : fine (.int i) = true := rfl
theorem eq_int (i j : Int) : eqD false (.int i) (.int j) = some (.d (.bool (decide (i = j)))) := eqD_fine (c := decide (i = j)) (by rw [decide_eq_true_iff, PyData.int.injEq]) rfl rfl
theorem eq_cell (a b : Cell) : eqD false (cD a) (cD b) = some (.d (.bool (decide (a = b)))) := eqD_fine (c := decide (a = b)) (by rw [decide_eq_true_iff]; exact ⟨fun z => by rw [z], cD_inj⟩) (cD_fine a) (cD_fine b)
/-- the slots of _law_smoothed -/
def sst (o : Ob) (T : Tab) (a b c d e : Sl) : G.Env := [.par 0 o, .par 1 (.dN (tab nk vR T)), a, b, c, d, e]
theorem tab_res {o : Ob} {T : Tab} {a b c d e : Sl} : AV.res (sst o T a b c d e) (.b 1) = some (.dict ((tab nk vR T).map fun e => (nkD e.1, e.2))) := rfl
def smI (ks : List Cell) (i : Nat) (ρ : G.Env) : Prop := ∃ o T a b c d e, ρ = sst o T a b c d e ∧ GoodP o ∧ GoodT T ∧ DatSl e ∧ ∀ j c, i ≤ j → ks[j]? = some c → c ∈ T.map (·.1)
/-- one list of near cells, with c's place taken -/
theorem sub_lc {o : Ob} {T : Tab} {c x y d' : Cell} {r : List Cell} {a e : Sl} {i : Nat} (i' : Nat) {Q : AV → G.Env → Prop} (he : DatSl e) (hr : r.length ≤ 4) {z : Cell} (hz : lookA T z = some r) {ρ : G.Env} (hρ : ρ = sst o T (.dat (cD c)) a (.dat (cD x)) (.dat (cD y)) e)
    (hi : ρ[i]? = some (.dat (cD z))) (hi' : ∀ s, (ρ.set 6 s)[i']? = some (.dat (cD d'))) (q : Q (.d (vR (sub c d' r))) ρ) : E (fz (mLc (mSrc (mDGet (mVar 1) (mVar i))) (tgN 6) mYes (mIfE (mtst (m2 (eqD false) (mVar 6) (mVar 2))) (mVar i') (mVar 6)) [6])) ρ Q := by
  subst hρ
  have fzv : ∀ {ρ : G.Env} {n : Nat} {w : PyData}, ρ[n]? = some (.dat w) → fz (mVar n) ρ = some (.d w, ρ) := fun {ρ n w} h => by
    unfold fz mVar
    rw [h]
    rfl
  have mv : ∀ {ρ : G.Env} {n : Nat} {w : PyData}, ρ[n]? = some (.dat w) → mVar n ρ = some (.d w, ρ) := fun {ρ n w} h => by
    unfold mVar
    rw [h]
  refine E_fz (E_lc cD (fun t => some (cD (if t = c then d' else t))) (E_src (E_fz (E_dget (.keep (a := .b 1) rfl (.keep (fzv hi) ⟨_, _, vR r, tab_res, rfl, by rw [kn_cell.getD, hz]; rfl, ⟨.d (vR r), rfl, _, .inl rfl, r, rfl, ?_, ?_, ?_, ?_⟩⟩))))))
  · intro t ht
    refine ⟨_, rfl, .keep (a := true) rfl ?_⟩
    rw [if_pos rfl]
    refine E_fz (E_ifE (E_tst (E_m2 (.keep (a := .d (cD t)) rfl (.keep (a := .d (cD c)) rfl ⟨_, _, _, rfl, rfl, eq_cell t c, _, rfl, ?_⟩)))))
    by_cases htc : t = c
    · rw [if_pos (decide_eq_true htc), if_pos htc]
      exact .keep (mv (hi' (.dat (cD t)))) ⟨_, rfl, _, rfl, rfl, rfl⟩
    · rw [if_neg (by simp [htc]), if_neg htc]
      exact .keep (a := .d (cD t)) rfl ⟨_, rfl, _, rfl, rfl, rfl⟩
  · exact Nat.lt_of_le_of_lt hr (by decide)
  · intro v hv
    rw [List.mem_singleton.mp hv]
    rcases he with rfl | ⟨w, rfl⟩
    · exact .inl rfl
    · exact .inr ⟨w, rfl⟩
  · refine ⟨.d (vR (sub c d' r)), ?_, q⟩
    show some (AV.d (.list (r.filterMap fun t => some (cD (if t = c then d' else t))))) = _
    unfold vR sub
    rw [List.filterMap_eq_map', List.map_map]
    rfl
end K28
/-! k28 in plain Lean: _law_smoothed, the walk -/
namespace K28
open PySem hiding Env
open PySem.W PyProof.Rows L2 HD G
theorem GoodT.lim {T : Tab} (h : GoodT T) : T.length < LIM := Nat.lt_of_le_of_lt h.le (by decide)
/-- the sorted keys of a table -/
theorem keys_src {m : Mi Val} {ρ : G.Env} {T : Tab} {Q : List PyData → G.Env → Prop} (hT : T.length < LIM) {a : AV} (hm : fz m ρ = some (a, ρ)) (ha : a.res ρ = some (.dict ((tab nk vR T).map fun e => (nkD e.1, e.2))))
    (q : ∀ ks : List Cell, ks.Perm (T.map (·.1)) → Q (ks.map cD) ρ) : E (mSrc (mN sortedD [mN listD [m]])) ρ Q := by
  obtain ⟨ks, h1, h2⟩ := sorted_cells (T.map (·.1))
  have e1 : (T.map fun e => cD e.1) = (T.map (·.1)).map cD := by
    rw [List.map_map]
    rfl
  refine E_src (E_fz (E_mN (E_cons (E_fz (E_mN (E_cons (.keep hm (E_nil ⟨[.dict ((tab nk vR T).map fun e => (nkD e.1, e.2))], _, ?_, kn_cell.list hT, ⟨.d (.list (T.map fun e => cD e.1)), rfl, E_nil ⟨[.list (T.map fun e => cD e.1)], .l (ks.map cD), rfl, ?_, ⟨.d (.list (ks.map cD)), rfl, _, .inl rfl, q ks h2⟩⟩⟩⟩))))))))
  · show ((a.res ρ).bind fun x => (some []).map fun xs => x :: xs) = _
    rw [ha]
    rfl
  · rw [e1]
    exact h1
theorem smoothed_ok {o : Ob} {T : Tab} (hg : GoodP o) (hT : GoodT T) : ∃ o' T', m_law_smoothed [.par 0 o, .par 1 (.dN (tab nk vR T))] = some (.pa 1, [.par 0 o', .par 1 (.dN (tab nk vR T'))]) ∧ GoodP o' ∧ GoodT T' := by
  have key : ∃ f r, m_law_smoothed [.par 0 o, .par 1 (.dN (tab nk vR T))] = some (f, r) ∧ ∃ o' T', f = .pa 1 ∧ r = [.par 0 o', .par 1 (.dN (tab nk vR T'))] ∧ GoodP o' ∧ GoodT T' := by
    refine fn_of ?_
    show WS b_law_smoothed (sst o T .non .non .non .non .non) _
    refine WS_seq (WS_for (keys_src hT.lim (a := .b 1) rfl tab_res fun ks hks => ⟨smI ks, ?_, ?_, ?_⟩))
    · refine ⟨o, T, _, _, _, _, _, rfl, hg, hT, .inl rfl, fun j c _ hc => hks.mem_iff.mp (List.mem_of_getElem? hc)⟩
    · rintro i x ρ hx ⟨o1, T1, a, b, c', d, e, rfl, hg1, hT1, he, hk⟩
      rw [List.getElem?_map] at hx
      obtain ⟨c, hc, rfl⟩ := Option.map_eq_some_iff.mp hx
      refine ⟨_, rfl, ?_⟩
      show WS _ (sst o1 T1 (.dat (cD c)) b c' d e) _
      have nxt : ∀ j c1, i + 1 ≤ j → ks[j]? = some c1 → c1 ∈ T1.map (·.1) ∧ c1 ≠ c := fun j c1 hj h1 => by
        refine ⟨hk j c1 (by omega) h1, fun z => ?_⟩
        obtain ⟨l1, e1⟩ := List.getElem?_eq_some_iff.mp h1
        obtain ⟨l2, e2⟩ := List.getElem?_eq_some_iff.mp hc
        have nd : ks.Nodup := hks.nodup_iff.mpr hT.nd
        exact List.pairwise_iff_getElem.mp nd i j l2 l1 (by omega) (by rw [e1, e2, z])
      obtain ⟨r, hr⟩ := Option.isSome_iff_exists.mp (lookA_isSome.mpr (hk i c (Nat.le_refl _) hc))
      have mr := hT1.look.mp hr
      obtain ⟨r1, r2, r3, r4⟩ := hT1.row c r mr
      refine WS_seq (WS_set (E_fz (E_dget (.keep (a := .b 1) rfl (.keep (a := .d (cD c)) rfl ⟨_, _, vR r, tab_res, rfl, by rw [kn_cell.getD, hr]; rfl, ⟨.d (vR r), rfl, _, rfl, ?_⟩⟩)))))
      show WS _ (sst o1 T1 (.dat (cD c)) (.dat (vR r)) c' d e) _
      have skip : ∀ o2, GoodP o2 → smI ks (i + 1) (sst o2 T1 (.dat (cD c)) (.dat (vR r)) c' d e) := fun o2 hg2 => ⟨o2, T1, _, _, _, _, _, rfl, hg2, hT1, he, fun j c1 hj h1 => (nxt j c1 hj h1).1⟩
      refine WS_if (E_and (E_tst (E_m2 (.keep (a := .d (.int ((r.map cD).length : Int))) rfl (.keep (a := .d (.int 2)) rfl ⟨_, _, _, rfl, rfl, eq_int _ _, _, rfl, ?_⟩)))))
      by_cases h2 : ((r.map cD).length : Int) = 2
      · rw [if_pos (decide_eq_true h2)]
        rw [List.length_map] at h2
        obtain ⟨x, y, rfl⟩ : ∃ x y, r = [x, y] := by
          match r, h2 with
          | [x, y], _ => exact ⟨x, y, rfl⟩
        obtain ⟨rx, mx, cx⟩ := hT1.symm c _ mr x (by simp)
        obtain ⟨ry, my, cy⟩ := hT1.symm c _ mr y (by simp)
        have hx := hT1.look.mpr mx
        have hy := hT1.look.mpr my
        refine E_and (E_tst (E_m2 (.keep (a := .d (cD y)) rfl (E_fz (E_dget (.keep (a := .b 1) rfl (.keep (a := .d (cD x)) rfl ⟨_, _, vR rx, tab_res, rfl, by rw [kn_cell.getD, hx]; rfl, ⟨.d (vR rx), rfl, _, _, _, rfl, rfl, in_cD true y rx, _, rfl, ?_⟩⟩)))))))
        by_cases hyx : y ∈ rx
        · rw [if_neg (by simp [hyx]), if_neg (by decide)]
          exact ⟨_, rfl, skip o1 hg1⟩
        · rw [if_pos (by simp [hyx])]
          refine E_tst (E_m2 (E_fz (E_take (many := 2) (.inr ⟨0, rfl⟩) hg1 rfl (by decide) (by decide) fun z o2 z0 z1 hg2 => ⟨.d (.int z), rfl, .keep (a := .d (.int 0)) rfl ⟨_, _, _, rfl, rfl, eq_int z 0, _, rfl, ?_⟩⟩)))
          show if decide (z = 0) = true then WS _ (sst o2 T1 (.dat (cD c)) (.dat (vR [x, y])) c' d e) _ else WS mNil (sst o2 T1 (.dat (cD c)) (.dat (vR [x, y])) c' d e) _
          by_cases hz : z = 0
          · rw [if_pos (decide_eq_true hz)]
            refine WS_seq (WS_asg (.keep (a := .d (vR [x, y])) rfl ⟨_, _, rfl, rfl, ?_⟩))
            show WS _ (sst o2 T1 (.dat (cD c)) (.dat (vR [x, y])) (.dat (cD x)) (.dat (cD y)) e) _
            have nxy : x ≠ y := by
              simp at r1
              exact r1
            have ncx : c ≠ x := fun z => r4 (by rw [z]; simp)
            have ncy : c ≠ y := fun z => r4 (by rw [z]; simp)
            refine WS_seq (WS_put (sub_lc (z := x) (d' := y) 5 he (hT1.row _ _ mx).2.2.1 hx rfl rfl (fun s => rfl) ⟨rfl, .keep (a := .d (cD x)) rfl ⟨_, _, _, _, rfl, rfl, rfl, kn_cell.put hT1.lim x _, ?_⟩⟩))
            show WS _ (sst o2 (putA T1 x (sub c y rx)) (.dat (cD c)) (.dat (vR [x, y])) (.dat (cD x)) (.dat (cD y)) e) _
            have hl1 : (putA T1 x (sub c y rx)).length < LIM := Nat.lt_of_le_of_lt putA_length (Nat.lt_of_le_of_lt (Nat.succ_le_succ hT1.le) (by decide))
            have hl2 : (putA (putA T1 x (sub c y rx)) y (sub c x ry)).length < LIM := Nat.lt_of_le_of_lt putA_length (Nat.lt_of_le_of_lt (Nat.succ_le_succ (Nat.le_trans putA_length (Nat.succ_le_succ hT1.le))) (by decide))
            have hy' : lookA (putA T1 x (sub c y rx)) y = some ry := by
              rw [lookA_put, if_neg (fun z => nxy z.symm)]
              exact hy
            refine WS_seq (WS_put (sub_lc (z := y) (d' := x) 4 he (hT1.row _ _ my).2.2.1 hy' rfl rfl (fun s => rfl) ⟨rfl, .keep (a := .d (cD y)) rfl ⟨_, _, _, _, rfl, rfl, rfl, kn_cell.put hl1 y _, ?_⟩⟩))
            show WS _ (sst o2 (putA (putA T1 x (sub c y rx)) y (sub c x ry)) (.dat (cD c)) (.dat (vR [x, y])) (.dat (cD x)) (.dat (cD y)) e) _
            have hc' : lookA (putA (putA T1 x (sub c y rx)) y (sub c x ry)) c = some [x, y] := by
              rw [lookA_put, if_neg ncy, lookA_put, if_neg ncx]
              exact hr
            refine WS_exp (E_meth ⟨_, rfl, rfl, E_cons (.keep (a := .d (cD c)) rfl (E_nil ⟨[cD c], _, _, _, rfl, rfl, kn_cell.pop hl2 hc', ?_⟩))⟩)
            have hG := smooth_good hT1 hr hx hy hyx
            refine ⟨o2, smooth T1 c x y rx ry, .dat (cD c), .dat (vR [x, y]), .dat (cD x), .dat (cD y), e, rfl, hg2, hG, he, fun j c1 hj h1 => ?_⟩
            rw [smooth_keys (lookA_isSome.mp (by rw [hx]; rfl)) (lookA_isSome.mp (by rw [hy]; rfl)), List.mem_filter, decide_eq_true_iff]
            exact nxt j c1 hj h1
          · rw [if_neg (by simp [hz])]
            exact ⟨_, rfl, skip o2 hg2⟩
      · rw [if_neg (by simpa using h2), if_neg (by decide)]
        exact ⟨_, rfl, skip o1 hg1⟩
    · rintro ρ ⟨o1, T1, a, b, c', d, e, rfl, hg1, hT1, he, hk⟩
      refine WS_retO (.inr ⟨1, _, rfl, ?_⟩)
      refine ⟨[.par 0 o1, .par 1 (.dN (tab nk vR T1))], rfl, o1, T1, rfl, rfl, hg1, hT1⟩
  obtain ⟨f, r, h1, o', T', rfl, rfl, h2, h3⟩ := key
  exact ⟨o', T', h1, h2, h3⟩
end K28
/-! k28 in plain Lean: the words -/
namespace K28
open PySem hiding Env
open PySem.W PyProof.Rows L2 HD G
def abc : Str := "abcdefghijklmnopqrstuvwxyz"
theorem abc_cps : abc.cps.toList = List.range' 97 26 := by decide +kernel
theorem abc_len : abc.length = 26 := by decide +kernel
def digs (n : Nat) : List Nat := (Str.ofString (toString (n : Int))).cps.toList
theorem digs_digit : ∀ n, n < 41 → (∀ c ∈ digs n, 48 ≤ c ∧ c ≤ 57) ∧ (digs n).length ≤ 2 := by decide +kernel
theorem digs_inj : ∀ m, m < 41 → ∀ n, n < 41 → digs m = digs n → m = n := by decide +kernel
def low (l : List Nat) : Prop := ∀ c ∈ l, 97 ≤ c ∧ c ≤ 122
/-- a word for the number n -/
def WordAt (n : Nat) (x : Str) : Prop := ∃ l1 l2, x.cps.toList = l1 ++ digs n ++ l2 ∧ low l1 ∧ low l2 ∧ l1.length ≤ 2 ∧ l2.length ≤ 1
theorem low_filter {l : List Nat} (h : low l) : l.filter (fun c => decide (c ≤ 57)) = [] := by
  rw [List.filter_eq_nil_iff]
  intro c hc
  have := h c hc
  simp
  omega
theorem WordAt.digs {n : Nat} {x : Str} (h : WordAt n x) (hn : n < 41) : x.cps.toList.filter (fun c => decide (c ≤ 57)) = K28.digs n := by
  obtain ⟨l1, l2, e, h1, h2, _, _⟩ := h
  rw [e, List.filter_append, List.filter_append, low_filter h1, low_filter h2, List.append_nil, List.nil_append, List.filter_eq_self]
  intro c hc
  have := (digs_digit n hn).1 c hc
  simp
  omega
theorem WordAt.inj {m n : Nat} {x : Str} (h : WordAt m x) (k : WordAt n x) (hm : m < 41) (hn : n < 41) : m = n := digs_inj m hm n hn (by rw [← h.digs hm, k.digs hn])
theorem strOk_list {x : Str} (h : ∀ c ∈ x.cps.toList, c < 0x110000) : PyData.strOk x = true := by
  unfold PyData.strOk
  rw [← Array.all_toList, List.all_eq_true]
  intro c hc
  exact decide_eq_true (h c hc)
theorem WordAt.ok {n : Nat} {x : Str} (h : WordAt n x) (hn : n < 41) : PyData.strOk x = true := strOk_list fun c hc => by
  obtain ⟨l1, l2, e, h1, h2, _, _⟩ := h
  rw [e] at hc
  rcases List.mem_append.mp hc with z | z
  · rcases List.mem_append.mp z with z | z
    · have := h1 c z
      omega
    · have := (digs_digit n hn).1 c z
      omega
  · have := h2 c z
    omega
theorem str_fine {x : Str} (h : PyData.strOk x = true) : fine (.str x) = true := by
  rw [fine_iff]
  exact ⟨by simpa [nice] using h, by simp [PyData.depth]⟩
theorem abc_ix {r : Int} (h0 : 0 ≤ r) (h1 : r < 26) : ∃ c : Nat, ixD (.str abc) (.int r) = some (.d (.str ⟨#[c]⟩)) ∧ 97 ≤ c ∧ c ≤ 122 := by
  obtain ⟨n, rfl⟩ := Int.eq_ofNat_of_zero_le h0
  have hn : n < 26 := by omega
  refine ⟨97 + n, ?_, by omega, by omega⟩
  have e : abc.cps.toList[n]? = some (97 + n) := by
    rw [abc_cps, List.getElem?_range' hn, Nat.one_mul]
  show (if abc.length < LIM then (atI abc.cps.toList (n : Int)).map fun c => Res.d (.str ⟨#[c]⟩) else none) = _
  rw [if_pos (by rw [abc_len]; decide), atI_nat e]
  rfl
theorem add_str {x y : Str} (hx : x.length ≤ 50) (hy : y.length ≤ 50) : addD (.str x) (.str y) = some (.d (.str (x ++ y))) := if_pos (Nat.lt_of_le_of_lt (Nat.add_le_add hx hy) (by decide))
theorem cps_app (x y : Str) : (x ++ y).cps.toList = x.cps.toList ++ y.cps.toList := by
  show (x.cps ++ y.cps).toList = _
  rw [Array.toList_append]
theorem len_cps (x : Str) : x.length = x.cps.toList.length := by
  show x.cps.size = _
  rw [Array.length_toList]
theorem str_n {n : Nat} (hn : n < 41) : strD [.int (n : Int)] = some (.d (.str (Str.ofString (toString (n : Int))))) := by
  refine if_pos ?_
  have : (n : Int).natAbs < 2 ^ 64 := by omega
  by_cases z : (n : Int).natAbs = 0
  · rw [z]
    decide
  · have := (Nat.log2_lt z).mpr this
    omega
theorem one_len (c : Nat) : (⟨#[c]⟩ : Str).length ≤ 50 := by
  show 1 ≤ 50
  decide
theorem parsBack_par {k : Nat} {o o' : Ob} {ρ0 ρ' : G.Env} : parsBack (.par k o :: ρ0) (.par k o' :: ρ') = (parsBack ρ0 ρ').map fun r => .par k o' :: r := by
  rw [parsBack, if_pos rfl]
theorem word_ok {k : Nat} {o : Ob} {n : Nat} (hg : GoodP o) (hn : n < 41) : ∃ o' x, m_law_word [.par k o, .dat (.int (n : Int))] = some (.dt (.str x), [.par k o', .dat (.int (n : Int))]) ∧ GoodP o' ∧ WordAt n x := by
  have key : ∃ f r, m_law_word [.par k o, .dat (.int (n : Int))] = some (f, r) ∧ ∃ o' x, f = .dt (.str x) ∧ r = [.par k o', .dat (.int (n : Int))] ∧ GoodP o' ∧ WordAt n x := by
    refine fn_of ?_
    show WS b_law_word [.par k o, .dat (.int (n : Int)), .non, .non] _
    refine WS_seq (WS_set (.keep (a := .d (.str abc)) rfl ⟨_, rfl, ?_⟩))
    show WS _ [.par k o, .dat (.int (n : Int)), .dat (.str abc), .non] _
    refine WS_seq (WS_set (E_fz (E_m2 (.keep (a := .d (.str abc)) rfl (E_fz (E_take (many := 26) (.inr ⟨k, rfl⟩) hg rfl (by decide) (by decide) fun r o1 r0 r1 hg1 => ⟨_, rfl, ?_⟩))))))
    obtain ⟨c, e1, c1, c2⟩ := abc_ix r0 r1
    refine ⟨_, _, _, rfl, rfl, e1, _, rfl, _, rfl, ?_⟩
    show WS _ [.par k o1, .dat (.int (n : Int)), .dat (.str abc), .dat (.str ⟨#[c]⟩)] _
    have dn := digs_digit n hn
    have ln : (Str.ofString (toString (n : Int))).length ≤ 50 := by
      rw [len_cps]
      exact Nat.le_trans dn.2 (by decide)
    refine WS_seq (WS_if (E_tst (E_m2 (E_fz (E_take (many := 3) (.inr ⟨k, rfl⟩) hg1 rfl (by decide) (by decide) fun z o2 z0 z1 hg2 => ⟨.d (.int z), rfl, .keep (a := .d (.int 0)) rfl ⟨_, _, _, rfl, rfl, eq_int z 0, _, rfl, ?_⟩⟩)))))
    show if decide (z = 0) = true then WS _ [.par k o2, .dat (.int (n : Int)), .dat (.str abc), .dat (.str ⟨#[c]⟩)] _ else WS mNil [.par k o2, .dat (.int (n : Int)), .dat (.str abc), .dat (.str ⟨#[c]⟩)] _
    by_cases hz : z = 0
    · rw [if_pos (decide_eq_true hz)]
      refine WS_ret (E_fz (E_m2 (E_fz (E_m2 (E_fz (E_m2 (.keep (a := .d (.str ⟨#[c]⟩)) rfl ?_)))))))
      refine E_fz (E_m2 (.keep (a := .d (.str abc)) rfl ?_))
      refine E_fz (E_take (many := 26) (.inr ⟨k, rfl⟩) hg2 rfl (by decide) (by decide) fun r2 o3 r20 r21 hg3 => ⟨_, rfl, ?_⟩)
      obtain ⟨c', e2, c3, c4⟩ := abc_ix r20 r21
      refine ⟨_, _, _, rfl, rfl, e2, ⟨_, rfl, _, _, _, rfl, rfl, add_str (one_len c) (one_len c'), ⟨_, rfl, .keep (a := .d (.str (Str.ofString (toString (n : Int))))) ?_ ⟨_, _, _, rfl, rfl, add_str (by show 2 ≤ 50; decide) ln, ⟨_, rfl, .keep (a := .d (.str "x")) rfl ⟨_, _, _, rfl, rfl, add_str ?_ (by decide +kernel), ⟨_, rfl, _, rfl, ?_⟩⟩⟩⟩⟩⟩⟩
      · have hs := str_n hn
        show (mN strD [mVar 1] [.par k o3, .dat (.int (n : Int)), .dat (.str abc), .dat (.str ⟨#[c]⟩)]).bind _ = _
        show (((strD [.int (n : Int)]).map fun o => (o.val, [Sl.par k o3, .dat (.int (n : Int)), .dat (.str abc), .dat (.str ⟨#[c]⟩)])).bind _) = _
        rw [hs]
        rfl
      · rw [len_cps, cps_app, cps_app]
        show ([c] ++ [c'] ++ digs n).length ≤ 50
        have := dn.2
        simp only [List.length_append, List.length_cons, List.length_nil]
        omega
      · refine ⟨[.par k o3, .dat (.int (n : Int))], parsBack_par.trans rfl, o3, _, rfl, rfl, hg3, [c, c'], [120], ?_, ?_, ?_, by simp, by simp⟩
        · rw [cps_app, cps_app, cps_app]
          rfl
        · intro d hd
          simp at hd
          omega
        · intro d hd
          simp at hd
          omega
    · rw [if_neg (by simp [hz])]
      refine ⟨_, rfl, WS_ret (E_fz (E_m2 (.keep (a := .d (.str ⟨#[c]⟩)) rfl (.keep (a := .d (.str (Str.ofString (toString (n : Int))))) ?_ ⟨_, _, _, rfl, rfl, add_str (one_len c) ln, ⟨_, rfl, _, rfl, ?_⟩⟩))))⟩
      · have hs := str_n hn
        show (((strD [.int (n : Int)]).map fun o => (o.val, [Sl.par k o2, .dat (.int (n : Int)), .dat (.str abc), .dat (.str ⟨#[c]⟩)])).bind _) = _
        rw [hs]
        rfl
      · refine ⟨[.par k o2, .dat (.int (n : Int))], parsBack_par.trans rfl, o2, _, rfl, rfl, hg2, [c], [], ?_, ?_, fun d hd => (nomatch hd), by simp, by simp⟩
        · rw [cps_app]
          exact (List.append_nil _).symm
        · intro d hd
          simp at hd
          omega
  obtain ⟨f, r, h1, o', x, rfl, rfl, h2, h3⟩ := key
  exact ⟨o', x, h1, h2, h3⟩
end K28
/-! k28 in plain Lean: maps, darts -/
namespace K28
open PySem hiding Env
open PySem.W PyProof.Rows L2 HD G
abbrev Web := List (Str × List Str)
abbrev Dart := Str × Str
def txL (r : List Str) : List PyData := r.map .str
def plD (p : Str × List Str) : PyData := .tuple [.str p.1, .tuple (txL p.2)]
def webD (W : Web) (d : Dart) : PyData := .tuple [.tuple (W.map plD), .tuple [.str d.1, .str d.2]]
def sD (d : Dart) : PyData := .tuple [.str d.1, .str d.2]
def nks (d : Dart) : NestedKey := .tup [.text d.1, .text d.2]
theorem sD_inj {a b : Dart} (h : sD a = sD b) : a = b := by
  unfold sD at h
  simp at h
  exact Prod.ext h.1 h.2
theorem kn_dart : KN sD nks := by
  refine ⟨fun a b h => ?_, fun a => rfl, fun a => rfl, fun a => ⟨_, rfl, ?_⟩⟩
  · unfold nks at h
    simp at h
    exact Prod.ext h.1 h.2
  · simp [NestedKey.depth, NestedKey.depthAll]
/-- a map in order -/
structure GoodW (W : Web) : Prop where
  nd : (W.map (·.1)).Nodup
  two : 2 ≤ W.length
  le : W.length ≤ 40
  row : ∀ a r, (a, r) ∈ W → r.Nodup ∧ r ≠ [] ∧ r.length ≤ 4 ∧ a ∉ r ∧ PyData.strOk a = true
  symm : ∀ a r, (a, r) ∈ W → ∀ b ∈ r, ∃ r', (b, r') ∈ W ∧ a ∈ r'
/-- the darts -/
def darts (W : Web) : List Dart := W.flatMap fun p => p.2.map fun b => (p.1, b)
theorem mem_darts {W : Web} {d : Dart} : d ∈ darts W ↔ ∃ r, (d.1, r) ∈ W ∧ d.2 ∈ r := by
  unfold darts
  rw [List.mem_flatMap]
  constructor
  · rintro ⟨⟨a, r⟩, h1, h2⟩
    obtain ⟨b, h3, rfl⟩ := List.mem_map.mp h2
    exact ⟨r, h1, h3⟩
  · rintro ⟨r, h1, h2⟩
    exact ⟨(d.1, r), h1, List.mem_map.mpr ⟨d.2, h2, rfl⟩⟩
theorem flat_len {W : Web} (h : ∀ a r, (a, r) ∈ W → r.length ≤ 4) : (darts W).length ≤ 4 * W.length := by
  induction W with
  | nil => exact Nat.le_refl _
  | cons p W ih =>
    have e : darts (p :: W) = (p.2.map fun b => (p.1, b)) ++ darts W := rfl
    rw [e, List.length_append, List.length_map, List.length_cons]
    have := ih fun a r hr => h a r (List.mem_cons_of_mem _ hr)
    have := h p.1 p.2 (List.mem_cons_self ..)
    omega
theorem GoodW.dlen {W : Web} (h : GoodW W) : (darts W).length ≤ 160 := Nat.le_trans (flat_len fun a r hr => (h.row a r hr).2.2.1) (by have := h.le; omega)
theorem GoodW.uniq {W : Web} (h : GoodW W) {a : Str} {r r' : List Str} (h1 : (a, r) ∈ W) (h2 : (a, r') ∈ W) : r = r' := by
  have e1 := lookA_of h.nd h1
  rw [lookA_of h.nd h2] at e1
  exact (Option.some.inj e1).symm
theorem GoodW.strok {W : Web} (h : GoodW W) {a : Str} {r : List Str} (h1 : (a, r) ∈ W) {b : Str} (hb : b ∈ r) : PyData.strOk b = true := by
  obtain ⟨r', h2, _⟩ := h.symm a r h1 b hb
  exact (h.row b r' h2).2.2.2.2
theorem GoodW.dart_ok {W : Web} (h : GoodW W) {d : Dart} (hd : d ∈ darts W) : PyData.strOk d.1 = true ∧ PyData.strOk d.2 = true := by
  obtain ⟨r, h1, h2⟩ := mem_darts.mp hd
  exact ⟨(h.row _ _ h1).2.2.2.2, h.strok h1 h2⟩
theorem dart_fine {d : Dart} (h : PyData.strOk d.1 = true ∧ PyData.strOk d.2 = true) : fine (sD d) = true := by
  rw [fine_iff]
  exact ⟨by simp [sD, nice, niceAll, h.1, h.2], by simp [sD, PyData.depth, PyData.depthAll]⟩
theorem nodup_len {α : Type} [DecidableEq α] : ∀ {l m : List α}, l.Nodup → (∀ x ∈ l, x ∈ m) → l.length ≤ m.length
  | [], _, _, _ => Nat.zero_le _
  | x :: l, m, h, k => by
    rw [List.nodup_cons] at h
    have hx := k x (List.mem_cons_self ..)
    have := nodup_len (l := l) (m := m.erase x) h.2 fun y hy => by
      have ne : y ≠ x := fun z => h.1 (by rw [← z]; exact hy)
      exact (List.mem_erase_of_ne ne).mpr (k y (List.mem_cons_of_mem _ hy))
    rw [List.length_erase_of_mem hx] at this
    have p : 0 < m.length := List.length_pos_of_mem hx
    rw [List.length_cons]
    omega
/-- the place of a text in a tuple of texts -/
theorem idx_tup {r : List Str} {a : Str} (h : a ∈ r) : ∃ j : Nat, idxD (.tuple (txL r)) (.str a) = some j ∧ r[j]? = some a := by
  have e : strsOf (txL r) = some r := by
    unfold txL
    clear h
    induction r with
    | nil => rfl
    | cons x xs ih =>
      show ((strsOf (xs.map PyData.str)).map fun l => x :: l) = _
      rw [ih]
      rfl
  have ex : ∀ l : List Str, a ∈ l → ∃ j, firstP (fun x => decide (x = a)) l = some j := fun l => by
    induction l with
    | nil => exact fun z => (nomatch z)
    | cons x xs ih =>
      intro hm
      unfold firstP
      split
      · exact ⟨0, rfl⟩
      · next hne =>
        rcases List.mem_cons.mp hm with z | z
        · exact absurd (decide_eq_true z.symm) hne
        · obtain ⟨j, hj⟩ := ih z
          exact ⟨j + 1, by rw [hj]; rfl⟩
  obtain ⟨j, hj⟩ := ex r h
  obtain ⟨z, h1, h2, _⟩ := firstP_some hj
  refine ⟨j, ?_, ?_⟩
  · show ((strsOf (txL r)).bind fun is => firstP (fun x => decide (x = a)) is) = _
    rw [e]
    exact hj
  · rw [of_decide_eq_true h2] at h1
    exact h1
theorem okList_strs {r : List Str} (h : ∀ x ∈ r, PyData.strOk x = true) : okList (txL r) := by
  refine ⟨fun x hx => ?_, fun x hx y hy => ?_⟩
  · obtain ⟨a, ha, rfl⟩ := List.mem_map.mp hx
    exact str_fine (h a ha)
  · obtain ⟨a, ha, rfl⟩ := List.mem_map.mp hx
    obtain ⟨b, hb, rfl⟩ := List.mem_map.mp hy
    simp [alike]
def unS : PyData → Str
  | .str x => x
  | _ => ""
theorem sorted_strs {r : List Str} (h : ∀ x ∈ r, PyData.strOk x = true) : ∃ r' : List Str, sortedD [.list (txL r)] = some (.l (txL r')) ∧ sortedD [.tuple (txL r)] = some (.l (txL r')) ∧ r'.Perm r := by
  obtain ⟨r', h1, h2⟩ := perm_unmap (f := PyData.str) (g := unS) (fun a => rfl) (sortP_perm (txL r))
  have hs : G.sortable (txL r) = true := by
    unfold G.sortable
    rw [Bool.or_eq_true]
    refine .inr ?_
    rw [List.all_eq_true]
    intro d hd
    obtain ⟨a, _, rfl⟩ := List.mem_map.mp hd
    rfl
  refine ⟨r', ?_, ?_, h2⟩
  · show (if okSort (txL r) && G.sortable (txL r) then some (Res.l (sortP (txL r))) else none) = _
    rw [(okList_strs h).okSort, hs, h1]
    rfl
  · show (if okSort (txL r) && G.sortable (txL r) then some (Res.l (sortP (txL r))) else none) = _
    rw [(okList_strs h).okSort, hs, h1]
    rfl
theorem okList_darts {l : List Dart} (h : ∀ d ∈ l, PyData.strOk d.1 = true ∧ PyData.strOk d.2 = true) : okList (l.map sD) := by
  refine ⟨fun x hx => ?_, fun x hx y hy => ?_⟩
  · obtain ⟨a, ha, rfl⟩ := List.mem_map.mp hx
    exact dart_fine (h a ha)
  · obtain ⟨a, ha, rfl⟩ := List.mem_map.mp hx
    obtain ⟨b, hb, rfl⟩ := List.mem_map.mp hy
    simp [sD, alike, alikeAll]
end K28
/-! k28 in plain Lean: one face is walked -/
namespace K28
open PySem hiding Env
open PySem.W PyProof.Rows L2 HD G
theorem E_din {neg : Bool} {mk mo : Mi Val} {ρ : G.Env} {Q : Val → G.Env → Prop} (h : E (fz mk) ρ fun b ρ1 => E (fz mo) ρ1 fun a ρ2 => ∃ l k x, a.res ρ2 = some (.dict l) ∧ b = .d k ∧ hasD l k = some x ∧ Q (.d (.bool (if neg then !x else x))) ρ2) : E (mDIn neg mk mo) ρ Q := by
  obtain ⟨b, ρ1, h1, a, ρ2, h2, l, k, x, h3, rfl, h4, q⟩ := h
  refine ⟨_, _, ?_, q⟩
  unfold mDIn
  rw [h1]
  show ((fz mo ρ1).bind _) = _
  rw [h2]
  show ((a.res ρ2).bind _) = _
  rw [h3]
  show ((hasD l k).map fun x => (Val.d (.bool (if neg then !x else x)), ρ2)) = _
  rw [h4]
  rfl
theorem E_idx {mo my : Mi Val} {ρ : G.Env} {Q : Val → G.Env → Prop} (h : E (fz mo) ρ fun a ρ1 => ∃ x0, a.res ρ1 = some x0 ∧ E (fz my) ρ1 fun b ρ2 => ∃ x y j, a.res ρ2 = some x ∧ tyD x = tyD x0 ∧ b.res ρ2 = some y ∧ idxD x y = some j ∧ Q (.d (.int (j : Nat))) ρ2) : E (mIdx mo my) ρ Q := by
  obtain ⟨a, ρ1, h1, x0, h2, b, ρ2, h3, x, y, j, h4, h5, h6, h7, q⟩ := h
  refine ⟨_, _, ?_, q⟩
  unfold mIdx
  rw [h1]
  show ((a.res ρ1).bind _) = _
  rw [h2]
  show ((fz my ρ1).bind _) = _
  rw [h3]
  show ((a.res ρ2).bind _) = _
  rw [h4]
  show ((chk (tyD x = tyD x0)).bind _) = _
  rw [show chk (tyD x = tyD x0) = some () from if_pos h5]
  show ((b.res ρ2).bind _) = _
  rw [h6]
  show ((idxD x y).map fun j => (Val.d (.int (j : Nat)), ρ2)) = _
  rw [h7]
  rfl
def vW (r : List Str) : PyData := .tuple (txL r)
def vU (_ : Unit) : PyData := .bool true
def fD (f : List Dart) : PyData := .tuple (f.map sD)
abbrev Done := List (Dart × Unit)
/-- the slots of _law_faces -/
def fst (web : PyData) (W : Web) (dn : Done) (fs : List (List Dart)) (a b c d e f g : Sl) : G.Env := [.dat web, .own (.dK (tab kS vW W)), a, b, .own (.dN (tab nks vU dn)), .own (.lst (fs.map fD)), c, d, e, f, g]
def fcCond : Mi Bool := mtst (mDIn true (mVar 7) (mVar 4))
def fcBody : Ms := (mSeq (mPut 4 (mVar 7) (mC (.bool true)))
  (mSeq (mExp (mMeth "list" obAppend 8 [(mVar 7)]))
  (mSeq (mSet 9 (mDGet (mVar 1) (m2 ixD (mVar 7) (mC (.int 1)))))
  (mSet 7 (mTup [(m2 ixD (mVar 7) (mC (.int 1))), (m2 ixD (mVar 9) (m2 modD (mN intD [(m2 addD (mIdx (mVar 9) (m2 ixD (mVar 7) (mC (.int 0)))) (mC (.int 1)))]) (mN lenD [(mVar 9)])))])))))
/-- what stands while a face is walked, m darts at most being left -/
def fcI (web : PyData) (W : Web) (fs : List (List Dart)) (a b c g : Sl) (m : Nat) (ρ : G.Env) : Prop := ∃ (dn : Done) (d : Dart) (wk : List Dart) (f : Sl), ρ = fst web W dn fs a b c (.dat (sD d)) (.own (.lst (wk.map sD))) f g ∧ (dn.map (·.1)).Nodup ∧ (∀ x ∈ dn.map (·.1), x ∈ darts W) ∧ d ∈ darts W ∧
  (∀ x ∈ wk, x ∈ darts W) ∧ wk.length ≤ dn.length ∧ (dn ≠ [] → fs ≠ [] ∨ wk ≠ []) ∧ m + dn.length = (darts W).length
theorem fcStep {web : PyData} {W : Web} (hW : GoodW W) {fs : List (List Dart)} {a b c g : Sl} {m : Nat} {ρ : G.Env} {Q : Out → Prop} (h : fcI web W fs a b c g m ρ)
    (q : ∀ (dn : Done) (d : Dart) (wk : List Dart) (f : Sl), (dn.map (·.1)).Nodup → (∀ x ∈ dn.map (·.1), x ∈ darts W) → (∀ x ∈ wk, x ∈ darts W) → wk.length ≤ dn.length → (fs ≠ [] ∨ wk ≠ []) → Q (.nx (fst web W dn fs a b c (.dat (sD d)) (.own (.lst (wk.map sD))) f g))) :
    E fcCond ρ fun x ρ1 => if x = true then ∃ m', m = m' + 1 ∧ WS fcBody ρ1 (fun o => match o with
      | .nx ρ2 => fcI web W fs a b c g m' ρ2
      | .ct ρ2 => fcI web W fs a b c g m' ρ2
      | .bk ρ2 => Q (.nx ρ2)
      | o => Q o) else Q (.nx ρ1) := by
  obtain ⟨dn, d, wk, f, rfl, hnd, hsub, hd, hwk, hwl, hne, hm⟩ := h
  have hdl := hW.dlen
  have hlen : dn.length ≤ 160 := by omega
  refine E_tst (E_din (.keep (a := .d (sD d)) rfl (.keep (a := .b 4) rfl ⟨_, _, _, rfl, rfl, kn_dart.hasD dn d, _, rfl, ?_⟩)))
  by_cases hin : d ∈ dn.map (·.1)
  · rw [if_neg (by rw [lookA_isSome.mpr hin]; decide)]
    have ne : dn ≠ [] := fun z => by
      rw [z] at hin
      cases hin
    exact q dn d wk f hnd hsub hwk hwl (hne ne)
  · have hno : (lookA dn d).isSome = false := by
      cases z : (lookA dn d).isSome with
      | false => rfl
      | true => exact absurd (lookA_isSome.mp z) hin
    rw [if_pos (by rw [hno]; decide)]
    have hlt : dn.length + 1 ≤ (darts W).length := by
      have := nodup_len (l := d :: dn.map (·.1)) (m := darts W) (List.nodup_cons.mpr ⟨hin, hnd⟩) (fun x hx => by
        rcases List.mem_cons.mp hx with z | z
        · rw [z]
          exact hd
        · exact hsub x z)
      rw [List.length_cons, List.length_map] at this
      exact this
    refine ⟨m - 1, by omega, ?_⟩
    have hp := kn_dart.put (v := vU) (T := dn) (Nat.lt_of_le_of_lt hlen (by decide)) d ()
    rw [putA_new hin] at hp
    refine WS_seq (WS_put (.keep (a := .d (.bool true)) rfl ⟨rfl, .keep (a := .d (sD d)) rfl ⟨_, _, _, _, rfl, rfl, rfl, hp, ?_⟩⟩))
    show WS _ (fst web W (dn ++ [(d, ())]) fs a b c (.dat (sD d)) (.own (.lst (wk.map sD))) f g) _
    refine WS_seq (WS_exp (E_append (l0 := wk.map sD) rfl (.keep (a := .d (sD d)) rfl ⟨_, wk.map sD, rfl, rfl, by rw [List.length_map]; exact Nat.lt_of_le_of_lt (Nat.le_trans hwl hlen) (by decide), ?_⟩)))
    have ew : wk.map sD ++ [sD d] = (wk ++ [d]).map sD := by rw [List.map_append]; rfl
    rw [ew]
    show WS _ (fst web W (dn ++ [(d, ())]) fs a b c (.dat (sD d)) (.own (.lst ((wk ++ [d]).map sD))) f g) _
    obtain ⟨r, h1, h2⟩ := mem_darts.mp hd
    obtain ⟨r', h3, h4⟩ := hW.symm _ _ h1 _ h2
    have hl := lookA_of hW.nd h3
    refine WS_seq (WS_set (E_fz (E_dget (.keep (a := .b 1) rfl (.keep (a := .d (.str d.2)) rfl ⟨_, _, vW r', rfl, rfl, by rw [ks_getD, hl]; rfl, ⟨.d (vW r'), rfl, _, rfl, ?_⟩⟩)))))
    show WS _ (fst web W (dn ++ [(d, ())]) fs a b c (.dat (sD d)) (.own (.lst ((wk ++ [d]).map sD))) (.dat (vW r')) g) _
    obtain ⟨j, hj, hj2⟩ := idx_tup h4
    have hr0 : 0 < r'.length := List.length_pos_of_mem h4
    refine WS_set (E_fz (E_tup (E_cons (.keep (a := .d (.str d.2)) rfl (E_cons (E_fz (E_m2 (.keep (a := .d (vW r')) rfl (E_fz (E_m2 (E_fz (E_mN (E_cons (E_fz (E_m2 (E_fz (E_idx (.keep (a := .d (vW r')) rfl ⟨_, rfl, .keep (a := .d (.str d.1)) rfl ⟨_, _, j, rfl, rfl, rfl, hj, ?_⟩⟩))))))))))))))))))
    refine ⟨.d (.int (j : Nat)), rfl, .keep (a := .d (.int 1)) rfl ⟨_, _, .d (.int ((j : Int) + 1)), rfl, rfl, rfl, ⟨.d (.int ((j : Int) + 1)), rfl, E_nil ⟨[.int ((j : Int) + 1)], .d (.int ((j : Int) + 1)), rfl, rfl, ⟨.d (.int ((j : Int) + 1)), rfl, .keep (a := .d (.int ((txL r').length : Int))) rfl ⟨_, _, .d (.int (((j : Int) + 1) % ((txL r').length : Int))), rfl, rfl, ?_, ⟨.d (.int (((j : Int) + 1) % ((txL r').length : Int))), rfl, ?_⟩⟩⟩⟩⟩⟩⟩
    · have : (0 : Int) < ((txL r').length : Int) := by
        unfold txL
        rw [List.length_map]
        omega
      show (if decide ((0 : Int) < ((txL r').length : Int)) = true then some (Res.d (.int (((j : Int) + 1) % ((txL r').length : Int)))) else none) = _
      rw [if_pos (decide_eq_true this)]
    · have pos : (0 : Int) < ((txL r').length : Int) := by
        unfold txL
        rw [List.length_map]
        omega
      obtain ⟨y, hy, _, e2⟩ := ix_drawn (xs := r') (f := PyData.str) (r := ((j : Int) + 1) % ((txL r').length : Int)) (Int.emod_nonneg _ (by omega)) (Int.emod_lt_of_pos _ pos)
      refine ⟨_, _, _, rfl, rfl, e2, ⟨.d (.str y), rfl, E_nil ⟨_, rfl, ⟨.d (sD (d.2, y)), rfl, _, rfl, ?_⟩⟩⟩⟩
      refine ⟨dn ++ [(d, ())], (d.2, y), wk ++ [d], _, rfl, ?_, ?_, mem_darts.mpr ⟨r', h3, hy⟩, ?_, ?_, fun _ => .inr (by simp), ?_⟩
      · rw [List.map_append, List.nodup_append]
        exact ⟨hnd, by simp, fun x hx z hz => by
          have : z = d := by simpa using hz
          rw [this]
          rintro rfl
          exact hin hx⟩
      · intro x hx
        rw [List.map_append] at hx
        rcases List.mem_append.mp hx with z | z
        · exact hsub x z
        · have : x = d := by simpa using z
          rw [this]
          exact hd
      · intro x hx
        rcases List.mem_append.mp hx with z | z
        · exact hwk x z
        · rw [List.mem_singleton.mp z]
          exact hd
      · rw [List.length_append, List.length_append, List.length_singleton, List.length_singleton]
        omega
      · rw [List.length_append, List.length_singleton]
        omega
end K28
/-! k28 in plain Lean: _law_faces -/
namespace K28
open PySem hiding Env
open PySem.W PyProof.Rows L2 HD G
theorem cut_lo {α : Type} {f : α → PyData} {l : List α} {n : Nat} (h : n ≤ l.length) : G.cutD (l.map f) (some (n : Int)) none = (l.drop n).map f := by
  unfold G.cutD
  rw [HT.sIx_none, HT.sIx_nat, List.length_map, Nat.min_eq_left h, List.map_drop]
  exact List.take_of_length_le (by rw [List.length_drop, List.length_map]; exact Nat.le_refl _)
theorem cut_hi {α : Type} {f : α → PyData} {l : List α} {n : Nat} (h : n ≤ l.length) : G.cutD (l.map f) none (some (n : Int)) = (l.take n).map f := by
  unfold G.cutD
  rw [HT.sIx_none, HT.sIx_nat, List.length_map, Nat.min_eq_left h, List.drop_zero, Nat.sub_zero, List.map_take]
/-- e.index(min(e)), then the list from there on and what is ahead of it -/
theorem E_sl {m : Mi Val} {lo hi : Option (Mi Val)} {ρ : G.Env} {Q : Val → G.Env → Prop} {a : AV} (h1 : fz m ρ = some (a, ρ)) {l u : Option Int} (h2 : mPartI lo ρ = some (l, ρ)) (h3 : mPartI hi ρ = some (u, ρ)) {d : PyData} (h4 : a.res ρ = some d) {o : Res} (h5 : slD l u d = some o) (q : Q o.val ρ) : E (mSl m lo hi) ρ Q := by
  refine ⟨_, _, ?_, q⟩
  unfold mSl
  rw [h1]
  show ((mPartI lo ρ).bind _) = _
  rw [h2]
  show ((mPartI hi ρ).bind _) = _
  rw [h3]
  show ((a.res ρ).bind _) = _
  rw [h4]
  show ((slD l u d).map fun o => (o.val, ρ)) = _
  rw [h5]
  rfl
/-- the faces so far -/
structure FcOk (W : Web) (dn : Done) (fs : List (List Dart)) : Prop where
  nd : (dn.map (·.1)).Nodup
  sub : ∀ x ∈ dn.map (·.1), x ∈ darts W
  ok : ∀ f ∈ fs, f ≠ [] ∧ ∀ d ∈ f, d ∈ darts W
  ne : dn ≠ [] → fs ≠ []
  le : fs.length ≤ 161
def fcDart : Ms := (mSeq (mSet 7 (mTup [(mVar 2), (mVar 6)]))
  (mSeq (mSetO 8 (mLst []))
  (mSeq (mWhile (mtst (mDIn true (mVar 7) (mVar 4)))
    (mSeq (mPut 4 (mVar 7) (mC (.bool true)))
  (mSeq (mExp (mMeth "list" obAppend 8 [(mVar 7)]))
  (mSeq (mSet 9 (mDGet (mVar 1) (m2 ixD (mVar 7) (mC (.int 1)))))
  (mSet 7 (mTup [(m2 ixD (mVar 7) (mC (.int 1))), (m2 ixD (mVar 9) (m2 modD (mN intD [(m2 addD (mIdx (mVar 9) (m2 ixD (mVar 7) (mC (.int 0)))) (mC (.int 1)))]) (mN lenD [(mVar 9)])))]))))) FUEL)
  (mIf (mtst (m2 gtD (mN lenD [(mVar 8)]) (mC (.int 0))))
    (mSeq (mSet 10 (mIdx (mVar 8) (mN (bestD PySem.W.minD) [(mVar 8)])))
  (mExp (mMeth "list" obAppend 5 [(mN tupleD [(m2 addD (mSl (mVar 8) (some (mVar 10)) none) (mSl (mVar 8) none (some (mVar 10))))])])))
    mNil))))
theorem fcDart_ok {web : PyData} {W : Web} (hW : GoodW W) {dn : Done} {fs : List (List Dart)} (h : FcOk W dn fs) (hlen : fs.length ≤ 160) {a b : Str} (hd : (a, b) ∈ darts W) {s3 s7 s8 s9 s10 : Sl} :
    WS fcDart (fst web W dn fs (.dat (.str a)) s3 (.dat (.str b)) s7 s8 s9 s10) fun o => ∃ dn' fs' t7 t8 t9 t10, o = .nx (fst web W dn' fs' (.dat (.str a)) s3 (.dat (.str b)) t7 t8 t9 t10) ∧ FcOk W dn' fs' ∧ fs' ≠ [] ∧ fs'.length ≤ fs.length + 1 := by
  refine WS_seq (WS_set (.keep (a := .d (sD (a, b))) rfl ⟨_, rfl, ?_⟩))
  refine WS_seq (WS_setO (.keep (a := .fr (.lst [])) rfl ⟨_, rfl, ?_⟩))
  show WS _ (fst web W dn fs (.dat (.str a)) s3 (.dat (.str b)) (.dat (sD (a, b))) (.own (.lst (([] : List Dart).map sD))) s9 s10) _
  have hdl := hW.dlen
  have hdn : dn.length ≤ (darts W).length := by
    have := nodup_len h.nd h.sub
    rwa [List.length_map] at this
  refine WS_seq (WS_while (c := fcCond) (body := fcBody) (fun m ρ => fcI web W fs (.dat (.str a)) s3 (.dat (.str b)) s10 m ρ) (fun m ρ hI => fcStep hW hI ?_) FUEL ((darts W).length - dn.length) _ (Nat.lt_of_le_of_lt (show _ ≤ 160 by omega) (by decide)) ?_)
  · intro dn' d wk f hnd hsub hwk hwl hne
    have hdn' : dn'.length ≤ 160 := by
      have := nodup_len hnd hsub
      rw [List.length_map] at this
      omega
    refine WS_if (E_tst (E_m2 (.keep (a := .d (.int ((wk.map sD).length : Int))) rfl (.keep (a := .d (.int 0)) rfl ⟨_, _, .d (.bool (decide ((0 : Int) < ((wk.map sD).length : Int)))), rfl, rfl, rfl, _, rfl, ?_⟩))))
    by_cases hw : wk = []
    · subst hw
      rw [if_neg (by decide)]
      have hf : fs ≠ [] := hne.elim id fun z => absurd rfl z
      exact ⟨_, rfl, dn', fs, _, _, _, _, rfl, ⟨hnd, hsub, h.ok, fun _ => hf, h.le⟩, hf, Nat.le_succ _⟩
    · have hwp : 0 < wk.length := List.length_pos_iff.mpr hw
      rw [if_pos (by rw [List.length_map]; exact decide_eq_true (by omega))]
      have hok : okList (wk.map sD) := okList_darts fun x hx => hW.dart_ok (hwk x hx)
      obtain ⟨w0, ws, rfl⟩ := List.exists_cons_of_ne_nil hw
      have hmin := min_list (x := sD w0) (xs := ws.map sD) hok (by
        rw [List.all_eq_true]
        intro y hy
        obtain ⟨z, _, rfl⟩ := List.mem_map.mp (show y ∈ (w0 :: ws).map sD from hy)
        rfl)
      obtain ⟨j, hj, hj2, _⟩ := idx_fine hok.1 hmin.2
      have hjl : j < (w0 :: ws).length := by
        have := (List.getElem?_eq_some_iff.mp hj2).1
        rw [List.length_map] at this
        exact this
      refine WS_seq (WS_set (E_fz (E_idx (.keep (a := .b 8) rfl ⟨_, rfl, E_fz (E_mN (E_cons (.keep (a := .b 8) rfl (E_nil ⟨_, _, rfl, hmin.1, ⟨_, rfl, _, _, j, rfl, rfl, rfl, hj, ⟨_, rfl, _, rfl, ?_⟩⟩⟩))))⟩))))
      show WS _ (fst web W dn' fs (.dat (.str a)) s3 (.dat (.str b)) (.dat (sD d)) (.own (.lst ((w0 :: ws).map sD))) f (.dat (.int (j : Nat)))) _
      have ecat : (w0 :: ws).drop j ++ (w0 :: ws).take j ≠ [] := fun z => by
        have := congrArg List.length z
        rw [List.length_append, List.length_drop, List.length_take] at this
        simp only [List.length_nil] at this
        omega
      refine WS_exp (E_append (l0 := fs.map fD) rfl (E_fz (E_mN (E_cons (E_fz (E_m2 (E_fz (E_sl (a := .b 8) (l := some (j : Int)) (u := none) rfl rfl rfl rfl rfl ⟨_, rfl, E_fz (E_sl (a := .b 8) (l := none) (u := some (j : Int)) rfl rfl rfl rfl rfl ⟨_, rfl, ?_⟩)⟩))))))))
      rw [cut_lo (Nat.le_of_lt hjl), cut_hi (Nat.le_of_lt hjl)]
      have hadd : addD (.list (((w0 :: ws).drop j).map sD)) (.list (((w0 :: ws).take j).map sD)) = some (.l (((w0 :: ws).drop j ++ (w0 :: ws).take j).map sD)) := by
        show (if _ then some (Res.l _) else none) = _
        rw [if_pos, List.map_append]
        rw [List.length_map, List.length_map, List.length_drop, List.length_take]
        exact Nat.lt_of_le_of_lt (show _ ≤ 160 by omega) (by decide)
      refine ⟨_, _, _, rfl, rfl, hadd, ⟨_, rfl, E_nil ⟨_, _, rfl, rfl, ⟨.d (fD ((w0 :: ws).drop j ++ (w0 :: ws).take j)), rfl, _, fs.map fD, rfl, rfl, by rw [List.length_map]; exact Nat.lt_of_le_of_lt hlen (by decide), ?_⟩⟩⟩⟩
      refine ⟨dn', fs ++ [(w0 :: ws).drop j ++ (w0 :: ws).take j], .dat (sD d), .own (.lst ((w0 :: ws).map sD)), f, .dat (.int (j : Nat)), ?_, ⟨hnd, hsub, ?_, fun _ => by simp, ?_⟩, by simp, by simp⟩
      · unfold fst
        rw [List.map_append]
        rfl
      · intro x hx
        rcases List.mem_append.mp hx with z | z
        · exact h.ok x z
        · rw [List.mem_singleton.mp z]
          refine ⟨ecat, fun y hy => hwk y ?_⟩
          rcases List.mem_append.mp hy with z | z
          · exact List.mem_of_mem_drop z
          · exact List.mem_of_mem_take z
      · rw [List.length_append, List.length_singleton]
        omega
  · exact ⟨dn, (a, b), [], s9, rfl, h.nd, h.sub, hd, fun x hx => (nomatch hx), Nat.zero_le _, fun z => .inl (h.ne z), by omega⟩
end K28
/-! k28 in plain Lean: _law_faces, the whole -/
namespace K28
open PySem hiding Env
open PySem.W PyProof.Rows L2 HD G
theorem alike_all : ∀ (f g : List Dart), alikeAll (f.map sD) (g.map sD) = true
  | [], _ => by simp [alikeAll]
  | _ :: _, [] => by simp [alikeAll]
  | x :: f, y :: g => by
    rw [List.map_cons, List.map_cons, alikeAll, alike_all f g, Bool.and_true]
    simp [sD, alike, alikeAll]
theorem face_fine {f : List Dart} (h : ∀ d ∈ f, PyData.strOk d.1 = true ∧ PyData.strOk d.2 = true) : fine (fD f) = true := by
  rw [fine_iff]
  constructor
  · show niceAll (f.map sD) = true
    exact niceAll_iff.mpr fun x hx => by
      obtain ⟨d, hd, rfl⟩ := List.mem_map.mp hx
      exact (fine_iff.mp (dart_fine (h d hd))).1
  · show PyData.depthAll (f.map sD) + 1 ≤ 8
    have := depthAll_le (n := 7) (xs := f.map sD) fun x hx => by
      obtain ⟨d, hd, rfl⟩ := List.mem_map.mp hx
      simp [sD, PyData.depth, PyData.depthAll]
    omega
def unFD : PyData → List Dart
  | .tuple ds => ds.map fun d => match d with
    | .tuple [.str a, .str b] => (a, b)
    | _ => ("", "")
  | _ => []
theorem unFD_fD (f : List Dart) : unFD (fD f) = f := by
  unfold unFD fD
  dsimp only
  rw [List.map_map]
  exact (List.map_congr_left fun d _ => rfl).trans (List.map_id' f)
theorem sorted_faces {F : List (List Dart)} (h : ∀ f ∈ F, f ≠ [] ∧ ∀ d ∈ f, PyData.strOk d.1 = true ∧ PyData.strOk d.2 = true) : ∃ F' : List (List Dart), sortedD [.list (F.map fD)] = some (.l (F'.map fD)) ∧ F'.Perm F := by
  obtain ⟨F', h1, h2⟩ := perm_unmap (f := fD) (g := unFD) unFD_fD (sortP_perm (F.map fD))
  have hok : okList (F.map fD) := by
    refine ⟨fun x hx => ?_, fun x hx y hy => ?_⟩
    · obtain ⟨f, hf, rfl⟩ := List.mem_map.mp hx
      exact face_fine (h f hf).2
    · obtain ⟨f, hf, rfl⟩ := List.mem_map.mp hx
      obtain ⟨g, hg, rfl⟩ := List.mem_map.mp hy
      show alikeAll (f.map sD) (g.map sD) = true
      exact alike_all f g
  have hs : G.sortable (F.map fD) = true := by
    unfold G.sortable
    rw [Bool.or_eq_true, List.all_eq_true]
    refine .inl fun d hd => ?_
    obtain ⟨f, hf, rfl⟩ := List.mem_map.mp hd
    obtain ⟨x, xs, rfl⟩ := List.exists_cons_of_ne_nil (h f hf).1
    rfl
  refine ⟨F', ?_, h2⟩
  show (if okSort (F.map fD) && G.sortable (F.map fD) then some (Res.l (sortP (F.map fD))) else none) = _
  rw [hok.okSort, hs, h1]
  rfl
theorem faces_ok {W : Web} (hW : GoodW W) (od : Dart) : ∃ F : List (List Dart), m_law_faces [.dat (webD W od)] = some (.dt (.list (F.map fD)), [.dat (webD W od)]) ∧ F ≠ [] ∧ (∀ f ∈ F, f ≠ [] ∧ ∀ d ∈ f, d ∈ darts W) ∧ F.length ≤ 160 := by
  have key : ∃ f r, m_law_faces [.dat (webD W od)] = some (f, r) ∧ ∃ F : List (List Dart), f = .dt (.list (F.map fD)) ∧ r = [.dat (webD W od)] ∧ F ≠ [] ∧ (∀ f ∈ F, f ≠ [] ∧ ∀ d ∈ f, d ∈ darts W) ∧ F.length ≤ 160 := by
    refine fn_of ?_
    show WS b_law_faces [.dat (webD W od), .non, .non, .non, .non, .non, .non, .non, .non, .non, .non] _
    refine WS_seq (WS_setO (.keep (a := .fr (.dK [])) rfl ⟨_, rfl, ?_⟩))
    show WS _ [.dat (webD W od), .own (.dK []), .non, .non, .non, .non, .non, .non, .non, .non, .non] _
    refine WS_seq (WS_for (E_src (.keep (a := .d (.tuple (W.map plD))) rfl ⟨W.map plD, .inr rfl, fun i ρ => ∃ a b, ρ = [.dat (webD W od), .own (.dK (tab kS vW (W.take i))), a, b, .non, .non, .non, .non, .non, .non, .non], ⟨_, _, rfl⟩, ?_, ?_⟩)))
    · rintro i x ρ hx ⟨a, b, rfl⟩
      rw [List.getElem?_map] at hx
      obtain ⟨⟨n, r⟩, hn, rfl⟩ := Option.map_eq_some_iff.mp hx
      obtain ⟨hi, hn2⟩ := List.getElem?_eq_some_iff.mp hn
      refine ⟨_, rfl, ?_⟩
      have hnew : n ∉ (W.take i).map (·.1) := fun z => by
        obtain ⟨p, h1, h2⟩ := List.mem_map.mp z
        obtain ⟨j, hj⟩ := List.getElem?_of_mem h1
        have hji : j < i := by
          have := (List.getElem?_eq_some_iff.mp hj).1
          rw [List.length_take] at this
          omega
        rw [List.getElem?_take_of_lt hji] at hj
        obtain ⟨hjl, hj2⟩ := List.getElem?_eq_some_iff.mp hj
        have := List.pairwise_iff_getElem.mp hW.nd j i (by rw [List.length_map]; exact hjl) (by rw [List.length_map]; exact hi) hji
        rw [List.getElem_map, List.getElem_map, hj2, hn2] at this
        exact this h2
      have hl : (W.take i).length < LIM := by
        rw [List.length_take]
        exact Nat.lt_of_le_of_lt (show _ ≤ 40 by have := hW.le; omega) (by decide)
      have hp := ks_put (v := vW) hl n r
      rw [putA_new hnew] at hp
      refine WS_put (.keep (a := .d (vW r)) rfl ⟨rfl, .keep (a := .d (.str n)) rfl ⟨_, _, _, _, rfl, rfl, rfl, hp, ?_⟩⟩)
      refine ⟨.dat (.str n), .dat (vW r), ?_⟩
      have : W.take (i + 1) = W.take i ++ [(n, r)] := by
        rw [List.take_succ_eq_append_getElem hi, hn2]
      rw [this]
      rfl
    rintro ρ ⟨a, b, rfl⟩
    rw [List.length_map, List.take_length]
    refine WS_seq (WS_setO (.keep (a := .fr (.dN [])) rfl ⟨_, rfl, ?_⟩))
    refine WS_seq (WS_setO (.keep (a := .fr (.lst [])) rfl ⟨_, rfl, ?_⟩))
    show WS _ (fst (webD W od) W [] [] a b .non .non .non .non .non) _
    refine WS_seq (WS_for (E_src (.keep (a := .d (.tuple (W.map plD))) rfl ⟨W.map plD, .inr rfl, fun i ρ => ∃ dn fs s2 s3 s6 s7 s8 s9 s10, ρ = fst (webD W od) W dn fs s2 s3 s6 s7 s8 s9 s10 ∧ FcOk W dn fs ∧ fs.length ≤ 4 * i ∧ (0 < i → fs ≠ []), ?_, ?_, ?_⟩)))
    · exact ⟨[], [], _, _, _, _, _, _, _, rfl, ⟨List.nodup_nil, fun x hx => (nomatch hx), fun x hx => (nomatch hx), fun z => absurd rfl z, Nat.zero_le _⟩, Nat.zero_le _, fun z => absurd z (by decide)⟩
    · rintro i x ρ hx ⟨dn, fs, s2, s3, s6, s7, s8, s9, s10, rfl, hF, hl, hne⟩
      rw [List.getElem?_map] at hx
      obtain ⟨⟨n, r⟩, hn, rfl⟩ := Option.map_eq_some_iff.mp hx
      have hi : i < 40 := by
        have := (List.getElem?_eq_some_iff.mp hn).1
        have := hW.le
        omega
      have hmem : (n, r) ∈ W := List.mem_of_getElem? hn
      obtain ⟨r1, r2, r3, r4, r5⟩ := hW.row n r hmem
      obtain ⟨r', e1, e2, e3⟩ := sorted_strs (r := r) fun x hx => hW.strok hmem hx
      refine ⟨_, rfl, ?_⟩
      show WS _ (fst (webD W od) W dn fs (.dat (.str n)) (.dat (vW r)) s6 s7 s8 s9 s10) _
      have hr' : r'.length ≤ 4 := by rw [e3.length_eq]; exact r3
      have hr0 : 0 < r'.length := by
        rw [e3.length_eq]
        exact List.length_pos_iff.mpr r2
      refine WS_for (E_src (E_fz (E_mN (E_cons (.keep (a := .d (vW r)) rfl (E_nil ⟨[vW r], _, rfl, e2, ⟨.d (.list (txL r')), rfl, txL r', .inl rfl, fun j ρ => ∃ dn fs t6 t7 t8 t9 t10, ρ = fst (webD W od) W dn fs (.dat (.str n)) (.dat (vW r)) t6 t7 t8 t9 t10 ∧ FcOk W dn fs ∧ fs.length ≤ 4 * i + j ∧ (0 < j → fs ≠ []), ?_, ?_, ?_⟩⟩))))))
      · exact ⟨dn, fs, _, _, _, _, _, rfl, hF, by omega, fun z => absurd z (by decide)⟩
      · rintro j y ρ hy ⟨dn, fs, t6, t7, t8, t9, t10, rfl, hF, hl, hne⟩
        unfold txL at hy
        rw [List.getElem?_map] at hy
        obtain ⟨b, hb, rfl⟩ := Option.map_eq_some_iff.mp hy
        have hj : j < 4 := by
          have := (List.getElem?_eq_some_iff.mp hb).1
          omega
        refine ⟨_, rfl, ?_⟩
        show WS _ (fst (webD W od) W dn fs (.dat (.str n)) (.dat (vW r)) (.dat (.str b)) t7 t8 t9 t10) _
        have := fcDart_ok (web := webD W od) hW hF (by omega) (a := n) (b := b) (mem_darts.mpr ⟨r, hmem, e3.mem_iff.mp (List.mem_of_getElem? hb)⟩) (s3 := .dat (vW r)) (s7 := t7) (s8 := t8) (s9 := t9) (s10 := t10)
        refine this.mono ?_
        rintro o ⟨dn', fs', u7, u8, u9, u10, rfl, h1, h2, h3⟩
        exact ⟨dn', fs', _, _, _, _, _, rfl, h1, by omega, fun _ => h2⟩
      · rintro ρ ⟨dn, fs, t6, t7, t8, t9, t10, rfl, hF, hl, hne⟩
        unfold txL at hl hne
        rw [List.length_map] at hl hne
        exact ⟨dn, fs, _, _, _, _, _, _, _, rfl, hF, by omega, fun _ => hne hr0⟩
    · rintro ρ ⟨dn, fs, s2, s3, s6, s7, s8, s9, s10, rfl, hF, hl, hne⟩
      rw [List.length_map] at hl hne
      have hfs := hne (by have := hW.two; omega)
      obtain ⟨F', e1, e2⟩ := sorted_faces (F := fs) fun f hf => ⟨(hF.ok f hf).1, fun d hd => hW.dart_ok ((hF.ok f hf).2 d hd)⟩
      refine WS_ret (E_fz (E_mN (E_cons (.keep (a := .b 5) rfl (E_nil ⟨_, _, rfl, e1, ⟨.d (.list (F'.map fD)), rfl, _, rfl, ?_⟩⟩)))))
      refine ⟨[.dat (webD W od)], rfl, F', rfl, rfl, ?_, fun f hf => hF.ok f (e2.mem_iff.mp hf), ?_⟩
      · intro z
        rw [z] at e2
        exact hfs (List.nil_perm.mp e2)
      · rw [e2.length_eq]
        have := hW.le
        omega
  obtain ⟨f, r, h1, F, rfl, rfl, h2⟩ := key
  exact ⟨F, h1, h2⟩
end K28
/-! k28 in plain Lean: _law_named -/
namespace K28
open PySem hiding Env
open PySem.W PyProof.Rows L2 HD G
/-- the row from its least on -/
def rotW (r : List Str) : List Str := match r with
  | [] => []
  | x :: xs => match idxD (.list (txL (x :: xs))) (minD (.str x) (txL xs)) with
    | some j => (x :: xs).drop j ++ (x :: xs).take j
    | none => x :: xs
theorem rotW_perm (r : List Str) : (rotW r).Perm r := by
  unfold rotW
  split
  · exact .refl _
  · split
    · next j _ => exact List.perm_append_comm.trans (by rw [List.take_append_drop])
    · exact .refl _
theorem rot_step {r : List Str} (h0 : r ≠ []) (h : ∀ x ∈ r, PyData.strOk x = true) : ∃ (m : PyData) (j : Nat), bestD minD [.list (txL r)] = some (.d m) ∧ idxD (.list (txL r)) m = some j ∧ j ≤ r.length ∧ r.drop j ++ r.take j = rotW r := by
  obtain ⟨x, xs, rfl⟩ := List.exists_cons_of_ne_nil h0
  have hok := okList_strs h
  have hm := min_list (x := .str x) (xs := txL xs) hok (by
    rw [List.all_eq_true]
    intro y hy
    obtain ⟨z, _, rfl⟩ := List.mem_map.mp (show y ∈ (x :: xs).map PyData.str from hy)
    rfl)
  obtain ⟨j, hj, hj2, _⟩ := idx_fine hok.1 hm.2
  have hjl : j < (x :: xs).length := by
    have := (List.getElem?_eq_some_iff.mp hj2).1
    unfold txL at this
    rw [List.length_map] at this
    exact this
  refine ⟨_, j, hm.1, hj, Nat.le_of_lt hjl, ?_⟩
  show _ = (match idxD (.list (txL (x :: xs))) (minD (.str x) (txL xs)) with
    | some j => (x :: xs).drop j ++ (x :: xs).take j
    | none => x :: xs)
  rw [hj]
def vS (x : Str) : PyData := .str x
def tblD (T : Tab) : PyData := .dict ((tab nk vR T).map fun e => (nkD e.1, e.2))
/-- names for the cells of a table -/
structure Named (T : Tab) (WD : List (Cell × Str)) (φ : Cell → Str) : Prop where
  look : ∀ c ∈ T.map (·.1), lookA WD c = some (φ c)
  inj : ∀ c ∈ T.map (·.1), ∀ d ∈ T.map (·.1), φ c = φ d → c = d
  ok : ∀ c ∈ T.map (·.1), PyData.strOk (φ c) = true
theorem GoodT.mem_key {T : Tab} {c : Cell} {r : List Cell} (h : (c, r) ∈ T) : c ∈ T.map (·.1) := List.mem_map.mpr ⟨_, h, rfl⟩
theorem GoodT.row_key {T : Tab} (hT : GoodT T) {c : Cell} {r : List Cell} (h : (c, r) ∈ T) {d : Cell} (hd : d ∈ r) : d ∈ T.map (·.1) := by
  obtain ⟨r', h1, _⟩ := hT.symm c r h d hd
  exact GoodT.mem_key h1
/-- the map that a table makes -/
theorem web_good {T : Tab} (hT : GoodT T) {WD : List (Cell × Str)} {φ : Cell → Str} (hN : Named T WD φ) {W : Web} (hnd : (W.map (·.1)).Nodup) (hlen : W.length = T.length)
    (hW : ∀ a r, (a, r) ∈ W → ∃ c row, (c, row) ∈ T ∧ a = φ c ∧ r = rotW (row.map φ)) (hW2 : ∀ c row, (c, row) ∈ T → (φ c, rotW (row.map φ)) ∈ W) : GoodW W := by
  have nodm : ∀ {c : Cell} {l : List Cell}, (∀ x ∈ l, x ∈ T.map (·.1)) → l.Nodup → (l.map φ).Nodup := fun {c l} hl h => by
    induction l with
    | nil => exact List.nodup_nil
    | cons x xs ih =>
      rw [List.nodup_cons] at h
      rw [List.map_cons, List.nodup_cons]
      refine ⟨fun z => ?_, ih (fun y hy => hl y (List.mem_cons_of_mem _ hy)) h.2⟩
      obtain ⟨y, h1, h2⟩ := List.mem_map.mp z
      have := hN.inj y (hl y (List.mem_cons_of_mem _ h1)) x (hl x (List.mem_cons_self ..)) h2
      rw [← this] at h
      exact h.1 h1
  have memr : ∀ {row : List Cell} {b : Str}, b ∈ rotW (row.map φ) ↔ ∃ d ∈ row, φ d = b := fun {row b} => by
    rw [(rotW_perm _).mem_iff, List.mem_map]
  refine ⟨hnd, by rw [hlen]; exact hT.two, by rw [hlen]; exact hT.le, fun a r h => ?_, fun a r h b hb => ?_⟩
  · obtain ⟨c, row, h1, rfl, rfl⟩ := hW a r h
    obtain ⟨r1, r2, r3, r4⟩ := hT.row c row h1
    refine ⟨(rotW_perm _).nodup_iff.mpr (nodm (c := c) (fun x hx => hT.row_key h1 hx) r1), fun z => ?_, by rw [(rotW_perm _).length_eq, List.length_map]; exact r3, fun z => ?_, hN.ok c (GoodT.mem_key h1)⟩
    · have := congrArg List.length z
      rw [(rotW_perm _).length_eq, List.length_map] at this
      exact r2 (List.length_eq_zero_iff.mp this)
    · obtain ⟨d, hd, e⟩ := memr.mp z
      have := hN.inj d (hT.row_key h1 hd) c (GoodT.mem_key h1) e
      rw [this] at hd
      exact r4 hd
  · obtain ⟨c, row, h1, rfl, rfl⟩ := hW a r h
    obtain ⟨d, hd, rfl⟩ := memr.mp hb
    obtain ⟨row', h2, h3⟩ := hT.symm c row h1 d hd
    exact ⟨_, hW2 d row' h2, memr.mpr ⟨c, h3, rfl⟩⟩
/-- what is put into ways for a cell -/
def wayOf (T : Tab) (φ : Cell → Str) (c : Cell) : List Str := rotW (((lookA T c).getD []).map φ)
theorem E_call1 {mf : Mf} {m : Mi Val} {ρ : G.Env} {d x : PyData} {Q : Val → G.Env → Prop} (hm : fz m ρ = some (.d d, ρ)) (hf : mf [.dat d] = some (.dt x, [.dat d])) (q : Q (.d x) ρ) : E (mCall mf [m]) ρ Q :=
  E_call (E_cons (.keep hm (E_nil ⟨by show ([] : List Nat).Nodup; simp, [.dat d], rfl, _, _, _, ρ, hf, rfl, rfl, q⟩)))
theorem named_ok {o : Ob} {T : Tab} {WD : List (Cell × Str)} {φ : Cell → Str} (hg : GoodP o) (hT : GoodT T) (hN : Named T WD φ) : ∃ o' W d, m_law_named [.par 0 o, .dat (tblD T), .par 1 (.dN (tab nk vS WD))] = some (.dt (webD W d), [.par 0 o', .dat (tblD T), .par 1 (.dN (tab nk vS WD))]) ∧ GoodP o' ∧ GoodW W ∧ d ∈ darts W := by
  have key : ∃ f r, m_law_named [.par 0 o, .dat (tblD T), .par 1 (.dN (tab nk vS WD))] = some (f, r) ∧ ∃ o' W d, f = .dt (webD W d) ∧ r = [.par 0 o', .dat (tblD T), .par 1 (.dN (tab nk vS WD))] ∧ GoodP o' ∧ GoodW W ∧ d ∈ darts W := by
    refine fn_of ?_
    show WS b_law_named [.par 0 o, .dat (tblD T), .par 1 (.dN (tab nk vS WD)), .non, .non, .non, .non, .non, .non, .non, .non] _
    refine WS_seq (WS_setO (.keep (a := .fr (.dK [])) rfl ⟨_, rfl, ?_⟩))
    show WS _ [.par 0 o, .dat (tblD T), .par 1 (.dN (tab nk vS WD)), .own (.dK []), .non, .non, .non, .non, .non, .non, .non] _
    refine WS_seq (WS_for (keys_src hT.lim (a := .d (tblD T)) rfl rfl fun ks hks => ⟨fun i ρ => ∃ a b c, ρ = [.par 0 o, .dat (tblD T), .par 1 (.dN (tab nk vS WD)), .own (.dK (tab kS vW ((ks.take i).map fun c => (φ c, wayOf T φ c)))), a, b, .non, c, .non, .non, .non], ⟨_, _, _, rfl⟩, ?_, ?_⟩))
    · rintro i x ρ hx ⟨a, b, c', rfl⟩
      rw [List.getElem?_map] at hx
      obtain ⟨c, hc, rfl⟩ := Option.map_eq_some_iff.mp hx
      obtain ⟨hi, hc2⟩ := List.getElem?_eq_some_iff.mp hc
      have hck : c ∈ T.map (·.1) := hks.mem_iff.mp (List.mem_of_getElem? hc)
      obtain ⟨r, hr⟩ := Option.isSome_iff_exists.mp (lookA_isSome.mpr hck)
      have mr := hT.look.mp hr
      obtain ⟨r1, r2, r3, r4⟩ := hT.row c r mr
      have hks40 : ks.length ≤ 40 := by
        rw [hks.length_eq, List.length_map]
        exact hT.le
      refine ⟨_, rfl, ?_⟩
      show WS _ [.par 0 o, .dat (tblD T), .par 1 (.dN (tab nk vS WD)), .own (.dK (tab kS vW ((ks.take i).map fun c => (φ c, wayOf T φ c)))), .dat (cD c), b, .non, c', .non, .non, .non] _
      refine WS_seq (WS_setO (E_lc cD (fun d => some (.str (φ d))) (E_src (E_fz (E_dget (.keep (a := .d (tblD T)) rfl (.keep (a := .d (cD c)) rfl ⟨_, _, vR r, rfl, rfl, by rw [kn_cell.getD, hr]; rfl, ⟨.d (vR r), rfl, _, .inl rfl, r, rfl, ?_, ?_, ?_, ?_⟩⟩)))))))
      · intro d hd
        refine ⟨_, rfl, .keep (a := true) rfl ?_⟩
        rw [if_pos rfl]
        refine E_fz (E_dget (.keep (a := .b 2) rfl (.keep (a := .d (cD d)) rfl ⟨_, _, vS (φ d), rfl, rfl, by rw [kn_cell.getD, hN.look d (hT.row_key mr hd)]; rfl, ⟨.d (.str (φ d)), rfl, _, rfl, rfl, rfl⟩⟩)))
      · exact Nat.lt_of_le_of_lt r3 (by decide)
      · intro v hv
        rw [List.mem_singleton.mp hv]
        exact .inl rfl
      have elc : (r.filterMap fun d => some (PyData.str (φ d))) = txL (r.map φ) := by
        unfold txL
        rw [List.filterMap_eq_map', List.map_map]
        rfl
      rw [elc]
      refine ⟨_, rfl, ?_⟩
      refine WS_frz ⟨.lst (txL (r.map φ)), .list (txL (r.map φ)), rfl, rfl, ?_⟩
      show WS _ [.par 0 o, .dat (tblD T), .par 1 (.dN (tab nk vS WD)), .own (.dK (tab kS vW ((ks.take i).map fun c => (φ c, wayOf T φ c)))), .dat (cD c), .dat (.list (txL (r.map φ))), .non, c', .non, .non, .non] _
      have hstr : ∀ x ∈ r.map φ, PyData.strOk x = true := fun x hx => by
        obtain ⟨d, hd, rfl⟩ := List.mem_map.mp hx
        exact hN.ok d (hT.row_key mr hd)
      obtain ⟨mn, j, e1, e2, e3, e4⟩ := rot_step (r := r.map φ) (by simpa using r2) hstr
      refine WS_seq (WS_set (E_fz (E_idx (.keep (a := .d (.list (txL (r.map φ)))) rfl ⟨_, rfl, E_fz (E_mN (E_cons (.keep (a := .d (.list (txL (r.map φ)))) rfl (E_nil ⟨_, _, rfl, e1, ⟨.d mn, rfl, _, _, j, rfl, rfl, rfl, e2, ⟨_, rfl, _, rfl, ?_⟩⟩⟩))))⟩))))
      show WS _ [.par 0 o, .dat (tblD T), .par 1 (.dN (tab nk vS WD)), .own (.dK (tab kS vW ((ks.take i).map fun c => (φ c, wayOf T φ c)))), .dat (cD c), .dat (.list (txL (r.map φ))), .non, .dat (.int (j : Nat)), .non, .non, .non] _
      have c1 : G.cutD (txL (r.map φ)) (some (j : Int)) none = txL ((r.map φ).drop j) := cut_lo e3
      have c2 : G.cutD (txL (r.map φ)) none (some (j : Int)) = txL ((r.map φ).take j) := cut_hi e3
      have hadd : addD (.list (txL ((r.map φ).drop j))) (.list (txL ((r.map φ).take j))) = some (.l (txL (rotW (r.map φ)))) := by
        show (if _ then some (Res.l _) else none) = _
        rw [← e4]
        unfold txL
        rw [if_pos, List.map_append]
        rw [List.length_map, List.length_map, List.length_drop, List.length_take, List.length_map]
        exact Nat.lt_of_le_of_lt (show _ ≤ 8 by omega) (by decide)
      refine WS_put (E_fz (E_mN (E_cons (E_fz (E_m2 (E_fz (E_sl (a := .d (.list (txL (r.map φ)))) (l := some (j : Int)) (u := none) rfl rfl rfl rfl rfl ⟨.d (.list (txL ((r.map φ).drop j))), by rw [← c1]; rfl, E_fz (E_sl (a := .d (.list (txL (r.map φ)))) (l := none) (u := some (j : Int)) rfl rfl rfl rfl rfl ⟨.d (.list (txL ((r.map φ).take j))), by rw [← c2]; rfl, ?_⟩)⟩)))))))
      refine ⟨_, _, _, rfl, rfl, hadd, ⟨_, rfl, E_nil ⟨_, _, rfl, rfl, ⟨.d (vW (rotW (r.map φ))), rfl, rfl, E_fz (E_dget (.keep (a := .b 2) rfl (.keep (a := .d (cD c)) rfl ⟨_, _, vS (φ c), rfl, rfl, by rw [kn_cell.getD, hN.look c hck]; rfl, ⟨.d (.str (φ c)), rfl, ?_⟩⟩)))⟩⟩⟩⟩
      have hnew : φ c ∉ ((ks.take i).map fun c => (φ c, wayOf T φ c)).map (·.1) := fun z => by
        rw [List.map_map] at z
        obtain ⟨d, h1, h2⟩ := List.mem_map.mp z
        have hd : d ∈ ks := List.mem_of_mem_take h1
        have e := hN.inj d (hks.mem_iff.mp hd) c hck h2
        subst e
        obtain ⟨j', hj'⟩ := List.getElem?_of_mem h1
        have hji : j' < i := by
          have := (List.getElem?_eq_some_iff.mp hj').1
          rw [List.length_take] at this
          omega
        rw [List.getElem?_take_of_lt hji] at hj'
        obtain ⟨hjl, hj2⟩ := List.getElem?_eq_some_iff.mp hj'
        have nd : ks.Nodup := hks.nodup_iff.mpr hT.nd
        exact List.pairwise_iff_getElem.mp nd j' i hjl hi hji (hj2.trans hc2.symm)
      have hl : ((ks.take i).map fun c => (φ c, wayOf T φ c)).length < LIM := by
        rw [List.length_map, List.length_take]
        exact Nat.lt_of_le_of_lt (show _ ≤ 40 by omega) (by decide)
      have hp := ks_put (v := vW) hl (φ c) (rotW (r.map φ))
      rw [putA_new hnew] at hp
      refine ⟨_, _, _, _, rfl, rfl, rfl, hp, .dat (cD c), .dat (.list (txL (r.map φ))), .dat (.int (j : Nat)), ?_⟩
      have : (ks.take (i + 1)).map (fun c => (φ c, wayOf T φ c)) = (ks.take i).map (fun c => (φ c, wayOf T φ c)) ++ [(φ c, rotW (r.map φ))] := by
        rw [List.take_succ_eq_append_getElem hi, List.map_append, hc2]
        show _ ++ [(φ c, wayOf T φ c)] = _
        unfold wayOf
        rw [hr]
        rfl
      rw [this]
      rfl
    rintro ρ ⟨a, b, c, rfl⟩
    rw [List.length_map, List.take_length]
    have hmk : ∀ {c}, c ∈ ks ↔ c ∈ T.map (·.1) := hks.mem_iff
    have ndk : ks.Nodup := hks.nodup_iff.mpr hT.nd
    have ndY : ((ks.map fun c => (φ c, wayOf T φ c)).map (·.1)).Nodup := by
      rw [List.map_map]
      have go : ∀ l : List Cell, (∀ c ∈ l, c ∈ ks) → l.Nodup → (l.map ((fun e : Str × List Str => e.1) ∘ fun c => (φ c, wayOf T φ c))).Nodup := fun l => by
        induction l with
        | nil => exact fun _ _ => List.nodup_nil
        | cons x xs ih =>
          intro hl h
          rw [List.nodup_cons] at h
          rw [List.map_cons, List.nodup_cons]
          refine ⟨fun z => ?_, ih (fun y hy => hl y (List.mem_cons_of_mem _ hy)) h.2⟩
          obtain ⟨y, h1, h2⟩ := List.mem_map.mp z
          have := hN.inj y (hmk.mp (hl y (List.mem_cons_of_mem _ h1))) x (hmk.mp (hl x (List.mem_cons_self ..))) h2
          rw [← this] at h
          exact h.1 h1
      exact go ks (fun _ h => h) ndk
    have lY : ∀ {c}, c ∈ ks → lookA (ks.map fun c => (φ c, wayOf T φ c)) (φ c) = some (wayOf T φ c) := fun {c} hc => lookA_of ndY (List.mem_map.mpr ⟨c, hc, rfl⟩)
    have eT : ∀ {c row}, (c, row) ∈ T → wayOf T φ c = rotW (row.map φ) := fun {c row} h => by
      unfold wayOf
      rw [hT.look.mpr h]
      rfl
    have hks40 : ks.length ≤ 40 := by
      rw [hks.length_eq, List.length_map]
      exact hT.le
    have kY : (ks.map fun c => (φ c, wayOf T φ c)).map (·.1) = ks.map φ := by
      rw [List.map_map]
      rfl
    obtain ⟨ns, e1, _, e3⟩ := sorted_strs (r := ks.map φ) fun x hx => by
      obtain ⟨c, hc, rfl⟩ := List.mem_map.mp hx
      exact hN.ok c (hmk.mp hc)
    have hlist := ks_list (v := vW) (T := ks.map fun c => (φ c, wayOf T φ c)) (by rw [List.length_map]; exact Nat.lt_of_le_of_lt hks40 (by decide))
    have elist : ((ks.map fun c => (φ c, wayOf T φ c)).map fun e => PyData.str e.1) = txL (ks.map φ) := by
      unfold txL
      rw [← kY, List.map_map, List.map_map, List.map_map]
      rfl
    rw [elist] at hlist
    generalize hY : (ks.map fun c => (φ c, wayOf T φ c)) = Y at *
    have hns : ∀ {n}, n ∈ ns ↔ ∃ c ∈ ks, φ c = n := fun {n} => by rw [e3.mem_iff, List.mem_map]
    have hGW : GoodW (ns.map fun n => (n, (lookA Y n).getD [])) := by
      have hn1 : ((ns.map fun n => (n, (lookA Y n).getD [])).map (·.1)) = ns := by
        rw [List.map_map]
        exact List.map_id' ns
      refine web_good hT hN (by rw [hn1]; exact e3.nodup_iff.mpr (kY ▸ ndY)) (by rw [List.length_map, e3.length_eq, List.length_map, hks.length_eq, List.length_map]) (fun a r h => ?_) fun c row h => ?_
      · obtain ⟨n, h1, h2⟩ := List.mem_map.mp h
        obtain ⟨c, h3, rfl⟩ := hns.mp h1
        cases h2
        obtain ⟨row, hr⟩ := Option.isSome_iff_exists.mp (lookA_isSome.mpr (hmk.mp h3))
        have hm := hT.look.mp hr
        exact ⟨c, row, hm, rfl, by rw [lY h3, ← eT hm]; rfl⟩
      · have hc : c ∈ ks := hmk.mpr (GoodT.mem_key h)
        exact List.mem_map.mpr ⟨φ c, hns.mpr ⟨c, hc, rfl⟩, by rw [lY hc, eT h]; rfl⟩
    show WS _ [.par 0 o, .dat (tblD T), .par 1 (.dN (tab nk vS WD)), .own (.dK (tab kS vW Y)), a, b, .non, c, .non, .non, .non] _
    refine WS_seq (WS_set (E_fz (E_tup (E_cons (E_fz (E_mN (E_cons (E_fz ?_))))))))
    refine E_lc PyData.str (fun n => some (plD (n, (lookA Y n).getD []))) (E_src (E_fz (E_mN (E_cons (E_fz ?_)))))
    refine E_mN (E_cons (.keep (a := .b 3) rfl (E_nil ⟨_, _, rfl, hlist, ⟨.d (.list (txL (ks.map φ))), rfl, E_nil ⟨_, _, rfl, e1, ⟨.d (.list (txL ns)), rfl, _, .inl rfl, ns, rfl, ?_, ?_, ?_, ?_⟩⟩⟩⟩)))
    · intro n hn
      obtain ⟨c, hc, rfl⟩ := hns.mp hn
      refine ⟨_, rfl, .keep (a := true) rfl ?_⟩
      rw [if_pos rfl]
      refine E_fz (E_tup (E_cons (.keep (a := .d (.str (φ c))) rfl ?_)))
      refine E_cons (E_fz (E_dget (.keep (a := .b 3) rfl (.keep (a := .d (.str (φ c))) rfl ⟨_, _, vW (wayOf T φ c), rfl, rfl, by rw [ks_getD, lY hc]; rfl, ⟨.d (vW (wayOf T φ c)), rfl, E_nil ⟨_, rfl, ⟨.d (plD (φ c, wayOf T φ c)), rfl, _, rfl, ?_, rfl⟩⟩⟩⟩))))
      rw [lY hc]
      rfl
    · rw [e3.length_eq, List.length_map]
      exact Nat.lt_of_le_of_lt hks40 (by decide)
    · intro v hv
      rw [List.mem_singleton.mp hv]
      exact .inl rfl
    have ew : (ns.filterMap fun n => some (plD (n, (lookA Y n).getD []))) = (ns.map fun n => (n, (lookA Y n).getD [])).map plD := by
      rw [List.filterMap_eq_map', List.map_map]
      rfl
    rw [ew]
    generalize (ns.map fun n => (n, (lookA Y n).getD [])) = W at *
    refine ⟨_, rfl, E_nil ⟨_, _, rfl, rfl, ⟨_, rfl, E_cons (.keep (a := .d (sD ("", ""))) rfl (E_nil ⟨_, rfl, ⟨.d (webD W ("", "")), rfl, _, rfl, ?_⟩⟩))⟩⟩⟩
    show WS _ [.par 0 o, .dat (tblD T), .par 1 (.dN (tab nk vS WD)), .own (.dK (tab kS vW Y)), a, b, .non, c, .dat (webD W ("", "")), .non, .non] _
    obtain ⟨F, f1, f2, f3, f4⟩ := faces_ok hGW ("", "")
    refine WS_seq (WS_set (E_fz (E_call1 (d := webD W ("", "")) rfl f1 ⟨_, rfl, _, rfl, ?_⟩)))
    show WS _ [.par 0 o, .dat (tblD T), .par 1 (.dN (tab nk vS WD)), .own (.dK (tab kS vW Y)), a, b, .non, c, .dat (webD W ("", "")), .non, .dat (.list (F.map fD))] _
    have hF0 : 0 < F.length := List.length_pos_iff.mpr f2
    refine WS_ret (E_fz (E_tup (E_cons (.keep (a := .d (.tuple (W.map plD))) rfl ?_))))
    refine E_cons (E_fz (E_m2 (E_fz (E_m2 (.keep (a := .d (.list (F.map fD))) rfl ?_)))))
    refine E_fz (E_take (many := ((F.map fD).length : Int)) (.inr ⟨0, rfl⟩) hg rfl (by rw [List.length_map]; omega) (by rw [List.length_map]; omega) fun r o2 r0 r1 hg2 => ⟨_, rfl, ?_⟩)
    obtain ⟨fc, hfc, e5, _⟩ := ix_drawn (xs := F) (f := fD) r0 r1
    obtain ⟨g1, g2⟩ := f3 fc hfc
    obtain ⟨d0, ds, rfl⟩ := List.exists_cons_of_ne_nil g1
    refine ⟨_, _, _, rfl, rfl, e5, ⟨_, rfl, .keep (a := .d (.int 0)) rfl ⟨_, _, .d (sD d0), rfl, rfl, ixD_tup (n := 0) rfl, ⟨_, rfl, E_nil ⟨_, rfl, ⟨.d (webD W d0), rfl, _, rfl, ?_⟩⟩⟩⟩⟩⟩
    exact ⟨[.par 0 o2, .dat (tblD T), .par 1 (.dN (tab nk vS WD))], rfl, o2, W, d0, rfl, rfl, hg2, hGW, g2 d0 (List.mem_cons_self ..)⟩
  obtain ⟨f, r, h1, o', W, d, rfl, rfl, h2, h3⟩ := key
  exact ⟨o', W, d, h1, h2, h3⟩
end K28
/-! k28 in plain Lean: _law_map -/
namespace K28
open PySem hiding Env
open PySem.W PyProof.Rows L2 HD G
theorem setOb_app {ρ : G.Env} {x : Sl} {i : Nat} {o : Ob} (h : i < ρ.length) : setOb (ρ ++ [x]) i o = setOb ρ i o ++ [x] := by
  unfold setOb
  rw [List.getElem?_append_left h, List.getElem?_eq_getElem h]
  show (ρ ++ [x]).set i _ = ρ.set i _ ++ [x]
  rw [List.set_append_left _ _ h]
theorem setOb_last {ρ : G.Env} {o o' : Ob} : setOb (ρ ++ [.own o]) ρ.length o' = ρ ++ [.own o'] := by
  unfold setOb
  have : (ρ ++ [Sl.own o])[ρ.length]? = some (.own o) := by rw [List.getElem?_append_right (Nat.le_refl _), Nat.sub_self]; rfl
  rw [this]
  show (ρ ++ [Sl.own o]).set ρ.length (.own o') = _
  rw [List.set_append_right _ _ (Nat.le_refl _), Nat.sub_self]
  rfl
theorem setOb_length {ρ : G.Env} {i : Nat} {o : Ob} : (setOb ρ i o).length = ρ.length := by
  unfold setOb
  split
  · rw [List.length_set]
  · rfl
theorem E_callT {mf : Mf} {m1 m2 : Mi Val} {ρ : G.Env} {Q : Val → G.Env → Prop} (h : E (fz m1) ρ fun a ρ1 => E m2 ρ1 fun v ρ2 => ∃ i o p p' o', a = .b i ∧ v = .fr o ∧ i < ρ2.length ∧ slotOb ρ2 i = some p ∧ mf [.par 0 p, .par 1 o] = some (.pa 1, [.par 0 p', .par 1 o']) ∧ Q (.fr o') (setOb ρ2 i p')) : E (mCallT mf m1 m2) ρ Q := by
  obtain ⟨a, ρ1, h1, v, ρ2, h2, i, o, p, p', o', rfl, rfl, hi, hp, hm, q⟩ := h
  refine ⟨_, _, ?_, q⟩
  unfold mCallT
  rw [h1]
  show ((m2 ρ1).bind _) = _
  rw [h2]
  have hb : bors [AV.b i, AV.b ρ2.length] = [i, ρ2.length] := rfl
  have hl : (ρ2 ++ [Sl.own o])[ρ2.length]? = some (.own o) := by rw [List.getElem?_append_right (Nat.le_refl _), Nat.sub_self]; rfl
  have hs : slotOb (ρ2 ++ [.own o]) i = some p := by
    unfold slotOb at hp ⊢
    rw [List.getElem?_append_left hi]
    exact hp
  have hs2 : slotOb (ρ2 ++ [.own o]) ρ2.length = some o := by
    unfold slotOb
    rw [hl]
    rfl
  have hbind : bindA (ρ2 ++ [.own o]) 0 [.b i, .b ρ2.length] = some [.par 0 p, .par 1 o] := by
    show ((slotOb (ρ2 ++ [.own o]) i).bind fun o1 => ((slotOb (ρ2 ++ [.own o]) ρ2.length).bind fun o2 => (some []).map fun r => Sl.par 1 o2 :: r).map fun r => Sl.par 0 o1 :: r) = _
    rw [hs, hs2]
    rfl
  have hback : backA (ρ2 ++ [.own o]) [.b i, .b ρ2.length] [.par 0 p', .par 1 o'] = some (setOb ρ2 i p' ++ [.own o']) := by
    show some (setOb (setOb (ρ2 ++ [.own o]) i p') ρ2.length o') = _
    rw [setOb_app hi]
    have := setOb_last (ρ := setOb ρ2 i p') (o := o) (o' := o')
    rw [setOb_length] at this
    rw [this]
  show ((chk (bors [AV.b i, AV.b ρ2.length]).Nodup).bind fun _ => (bindA (ρ2 ++ [.own o]) 0 [.b i, .b ρ2.length]).bind fun ρ0 => (mf ρ0).bind fun q => match q.1 with
    | .pa k => (chk ((bors [AV.b i, AV.b ρ2.length])[k]? = some ρ2.length)).bind fun _ => (backA (ρ2 ++ [.own o]) [.b i, .b ρ2.length] q.2).bind fun ρ3 => (ρ3[ρ2.length]?).bind fun s => s.ob.map fun o' => (Val.fr o', ρ3.take ρ2.length)
    | _ => none) = _
  rw [hb, show chk ([i, ρ2.length].Nodup) = some () from if_pos (by simp; omega)]
  show ((bindA (ρ2 ++ [.own o]) 0 [.b i, .b ρ2.length]).bind _) = _
  rw [hbind]
  show ((mf [.par 0 p, .par 1 o]).bind _) = _
  rw [hm]
  show ((chk (([i, ρ2.length] : List Nat)[1]? = some ρ2.length)).bind fun _ => (backA (ρ2 ++ [.own o]) [.b i, .b ρ2.length] [.par 0 p', .par 1 o']).bind fun ρ3 => (ρ3[ρ2.length]?).bind fun s => s.ob.map fun o' => (Val.fr o', ρ3.take ρ2.length)) = _
  rw [show chk (([i, ρ2.length] : List Nat)[1]? = some ρ2.length) = some () from if_pos rfl, hback]
  show (((setOb ρ2 i p' ++ [Sl.own o'])[ρ2.length]?).bind fun s => s.ob.map fun o'' => (Val.fr o'', (setOb ρ2 i p' ++ [Sl.own o']).take ρ2.length)) = _
  have e1 : (setOb ρ2 i p' ++ [Sl.own o'])[ρ2.length]? = some (.own o') := by
    rw [List.getElem?_append_right (by rw [setOb_length]; exact Nat.le_refl _), setOb_length, Nat.sub_self]
    rfl
  have e2 : (setOb ρ2 i p' ++ [Sl.own o']).take ρ2.length = setOb ρ2 i p' := by
    have := setOb_length (ρ := ρ2) (i := i) (o := p')
    rw [← this, List.take_left]
  rw [e1, e2]
  rfl
/-- a call with the pool and one whole number, or with more data -/
theorem E_callP {mf : Mf} {i : Nat} {ms : List (Mi Val)} {as : List AV} {ds : List PyData} {ρ : G.Env} {o : Ob} {Q : Val → G.Env → Prop} (hs : ρ[i]? = some (.own o) ∨ ∃ k, ρ[i]? = some (.par k o)) (hm : mArgs ms ρ = some (as, ρ)) (has : as = ds.map AV.d) {f : FR} {o' : Ob} (hf : mf (.par 0 o :: ds.map Sl.dat) = some (f, .par 0 o' :: ds.map Sl.dat)) {v : Val} (hv : (∃ x, f = .dt x ∧ v = .d x) ∨ ∃ x, f = .ob x ∧ v = .fr x)
    (q : Q v (setOb ρ i o')) : E (mCall mf (mVar i :: ms)) ρ Q := by
  subst has
  have ev : fz (mVar i) ρ = some (.b i, ρ) ∧ slotOb ρ i = some o := by
    unfold fz mVar slotOb
    rcases hs with h | ⟨k, h⟩ <;> rw [h] <;> exact ⟨rfl, rfl⟩
  have hb : ∀ ds : List PyData, bors (ds.map AV.d) = [] := fun ds => by
    induction ds with
    | nil => rfl
    | cons d ds ih => exact ih
  have hbind : ∀ (ds : List PyData) (n : Nat), bindA ρ n (ds.map AV.d) = some (ds.map Sl.dat) := fun ds n => by
    induction ds with
    | nil => rfl
    | cons d ds ih =>
      show ((bindA ρ n (ds.map AV.d)).map fun r => Sl.dat d :: r) = _
      rw [ih]
      rfl
  have hback : ∀ (ds : List PyData) (ρ : G.Env), backA ρ (ds.map AV.d) (ds.map Sl.dat) = some ρ := fun ds ρ => by
    induction ds with
    | nil => rfl
    | cons d ds ih => exact ih
  refine E_call (E_cons (.keep ev.1 (.keep hm ?_)))
  refine ⟨?_, .par 0 o :: ds.map Sl.dat, ?_, f, .par 0 o' :: ds.map Sl.dat, v, setOb ρ i o', hf, ?_, ?_, q⟩
  · show (i :: bors (ds.map AV.d)).Nodup
    rw [hb]
    simp
  · show ((slotOb ρ i).bind fun o => (bindA ρ (0 + 1) (ds.map AV.d)).map fun r => Sl.par 0 o :: r) = _
    rw [ev.2, hbind]
    rfl
  · rcases hv with ⟨x, rfl, rfl⟩ | ⟨x, rfl, rfl⟩ <;> rfl
  · show backA (setOb ρ i o') (ds.map AV.d) (ds.map Sl.dat) = _
    rw [hback]
end K28
/-! k28 in plain Lean: _law_map, the whole -/
namespace K28
open PySem hiding Env
open PySem.W PyProof.Rows L2 HD G
theorem mArgs_one {m : Mi Val} {ρ : G.Env} {a : AV} (h : fz m ρ = some (a, ρ)) : mArgs [m] ρ = some ([a], ρ) := by
  unfold mArgs
  rw [h]
  rfl
/-- the words so far, for the first i cells -/
structure WordsI (ks : List Cell) (i : Nat) (WD : List (Cell × Str)) : Prop where
  keys : WD.map (·.1) = ks.take i
  look : ∀ j c, j < i → ks[j]? = some c → ∃ x, lookA WD c = some x ∧ WordAt j x
theorem WordsI.step {ks : List Cell} {i : Nat} {WD : List (Cell × Str)} (h : WordsI ks i WD) (nd : ks.Nodup) {c : Cell} (hc : ks[i]? = some c) {x : Str} (hx : WordAt i x) : WordsI ks (i + 1) (putA WD c x) := by
  obtain ⟨hi, hc2⟩ := List.getElem?_eq_some_iff.mp hc
  have hne : ∀ j d, j < i → ks[j]? = some d → d ≠ c := fun j d hj hd z => by
    obtain ⟨hjl, hj2⟩ := List.getElem?_eq_some_iff.mp hd
    exact List.pairwise_iff_getElem.mp nd j i hjl hi hj (by rw [hj2, hc2, z])
  have hnew : c ∉ ks.take i := fun z => by
    obtain ⟨j, hj⟩ := List.getElem?_of_mem z
    have hji : j < i := by
      have := (List.getElem?_eq_some_iff.mp hj).1
      rw [List.length_take] at this
      omega
    rw [List.getElem?_take_of_lt hji] at hj
    exact hne j c hji hj rfl
  refine ⟨?_, fun j d hj hd => ?_⟩
  · rw [putA_keys, h.keys, if_neg hnew, List.take_succ_eq_append_getElem hi, hc2]
  · by_cases e : j = i
    · subst e
      rw [hc] at hd
      cases hd
      exact ⟨x, by rw [lookA_put, if_pos rfl], hx⟩
    · obtain ⟨y, h1, h2⟩ := h.look j d (by omega) hd
      exact ⟨y, by rw [lookA_put, if_neg (hne j d (by omega) hd)]; exact h1, h2⟩
theorem WordsI.named {T : Tab} {ks : List Cell} {WD : List (Cell × Str)} (h : WordsI ks ks.length WD) (hks : ks.Perm (T.map (·.1))) (hl : ks.length ≤ 40) : Named T WD fun c => (lookA WD c).getD "" := by
  have at_ : ∀ c ∈ T.map (·.1), ∃ j x, j < 41 ∧ ks[j]? = some c ∧ lookA WD c = some x ∧ WordAt j x := fun c hc => by
    obtain ⟨j, hj⟩ := List.getElem?_of_mem (hks.mem_iff.mpr hc)
    have hjl := (List.getElem?_eq_some_iff.mp hj).1
    obtain ⟨x, h1, h2⟩ := h.look j c hjl hj
    exact ⟨j, x, by omega, hj, h1, h2⟩
  refine ⟨fun c hc => ?_, fun c hc d hd e => ?_, fun c hc => ?_⟩
  · obtain ⟨j, x, _, _, h1, _⟩ := at_ c hc
    rw [h1]
    rfl
  · obtain ⟨j, x, j1, j2, h1, h2⟩ := at_ c hc
    obtain ⟨k, y, k1, k2, h3, h4⟩ := at_ d hd
    rw [h1, h3] at e
    have e : x = y := e
    subst e
    have := h2.inj h4 j1 k1
    subst this
    rw [j2] at k2
    exact Option.some.inj k2
  · obtain ⟨j, x, j1, _, h1, h2⟩ := at_ c hc
    rw [h1]
    exact h2.ok j1
theorem len_words {WD : List (Cell × Str)} (h : WD.length < LIM) : lenD [.dict ((tab nk vS WD).map fun e => (nkD e.1, e.2))] = some (.d (.int (WD.length : Int))) := by
  have e : ((tab nk vS WD).map fun e => (nkD e.1, e.2)).length = WD.length := by
    unfold tab
    rw [List.length_map, List.length_map]
  show (if ((tab nk vS WD).map fun e => (nkD e.1, e.2)).length < LIM then some (Res.d (.int (((tab nk vS WD).map fun e => (nkD e.1, e.2)).length : Int))) else none) = _
  rw [e, if_pos h]
theorem map_ok {k : Nat} {o : Ob} {most : Int} (hg : GoodP o) (hm : 2 ≤ most ∧ most ≤ 40) : ∃ o' W d, m_law_map [.par k o, .dat (.int most)] = some (.dt (webD W d), [.par k o', .dat (.int most)]) ∧ GoodP o' ∧ GoodW W ∧ d ∈ darts W := by
  have key : ∃ f r, m_law_map [.par k o, .dat (.int most)] = some (f, r) ∧ ∃ o' W d, f = .dt (webD W d) ∧ r = [.par k o', .dat (.int most)] ∧ GoodP o' ∧ GoodW W ∧ d ∈ darts W := by
    refine fn_of ?_
    show WS b_law_map [.par k o, .dat (.int most), .non, .non, .non] _
    obtain ⟨o1, T0, e1, hg1, hT0⟩ := grid_ok (k := 0) (w := 4) (h := 3) (m := most) hg (by decide) (by decide) hm
    obtain ⟨o2, T, e2, hg2, hT⟩ := smoothed_ok hg1 hT0
    refine WS_seq (WS_set (E_fz (E_callT (.keep (a := .b 0) rfl (E_callP (i := 0) (as := [.d (.int 4), .d (.int 3), .d (.int most)]) (ds := [.int 4, .int 3, .int most]) (.inr ⟨k, rfl⟩) rfl rfl e1 (.inr ⟨_, rfl, rfl⟩) ⟨0, _, o1, o2, .dN (tab nk vR T), rfl, rfl, by show 0 < 5; decide, rfl, e2, ⟨.d (tblD T), rfl, _, rfl, ?_⟩⟩)))))
    show WS _ [.par k o2, .dat (.int most), .dat (tblD T), .non, .non] _
    refine WS_seq (WS_setO (.keep (a := .fr (.dN [])) rfl ⟨_, rfl, ?_⟩))
    show WS _ [.par k o2, .dat (.int most), .dat (tblD T), .own (.dN (tab nk vS [])), .non] _
    refine WS_seq (WS_for (keys_src hT.lim (a := .d (tblD T)) rfl rfl fun ks hks => ⟨fun i ρ => ∃ o WD s, ρ = [.par k o, .dat (.int most), .dat (tblD T), .own (.dN (tab nk vS WD)), s] ∧ GoodP o ∧ WordsI ks i WD, ?_, ?_, ?_⟩))
    · exact ⟨o2, [], _, rfl, hg2, rfl, fun j c hj => absurd hj (Nat.not_lt_zero j)⟩
    · rintro i x ρ hx ⟨o3, WD, s, rfl, hg3, hW⟩
      rw [List.getElem?_map] at hx
      obtain ⟨c, hc, rfl⟩ := Option.map_eq_some_iff.mp hx
      have hi := (List.getElem?_eq_some_iff.mp hc).1
      have hks40 : ks.length ≤ 40 := by
        rw [hks.length_eq, List.length_map]
        exact hT.le
      have hl : WD.length = i := by
        have := congrArg List.length hW.keys
        rw [List.length_map, List.length_take] at this
        omega
      have hlim : WD.length < LIM := Nat.lt_of_le_of_lt (show _ ≤ 40 by omega) (by decide)
      refine ⟨_, rfl, ?_⟩
      show WS _ [.par k o3, .dat (.int most), .dat (tblD T), .own (.dN (tab nk vS WD)), .dat (cD c)] _
      obtain ⟨o4, x, e3, hg4, hx⟩ := word_ok (k := 0) (n := i) hg3 (by omega)
      have hlen : fz (mN lenD [mVar 3]) [Sl.par k o3, .dat (.int most), .dat (tblD T), .own (.dN (tab nk vS WD)), .dat (cD c)] = some (.d (.int (i : Int)), [Sl.par k o3, .dat (.int most), .dat (tblD T), .own (.dN (tab nk vS WD)), .dat (cD c)]) := by
        have := len_words hlim
        rw [hl] at this
        show (((lenD [.dict ((tab nk vS WD).map fun e => (nkD e.1, e.2))]).map fun o => (o.val, [Sl.par k o3, .dat (.int most), .dat (tblD T), .own (.dN (tab nk vS WD)), .dat (cD c)])).bind _) = _
        rw [this]
        rfl
      refine WS_put (E_fz (E_callP (i := 0) (as := [.d (.int (i : Int))]) (ds := [.int (i : Int)]) (.inr ⟨k, rfl⟩) (mArgs_one hlen) rfl e3 (.inl ⟨_, rfl, rfl⟩) ⟨.d (.str x), rfl, rfl, .keep (a := .d (cD c)) rfl ⟨_, _, _, _, rfl, rfl, rfl, kn_cell.put (v := vS) hlim c x, ?_⟩⟩))
      exact ⟨o4, putA WD c x, _, rfl, hg4, hW.step (hks.nodup_iff.mpr hT.nd) hc hx⟩
    rintro ρ ⟨o3, WD, s, rfl, hg3, hW⟩
    rw [List.length_map] at hW
    have hN := hW.named hks (by rw [hks.length_eq, List.length_map]; exact hT.le)
    obtain ⟨o4, W, d, e3, hg4, hGW, hd⟩ := named_ok hg3 hT hN
    refine WS_ret (E_fz (E_call (.keep (a := [.b 0, .d (tblD T), .b 3]) rfl ⟨(by show ([0, 3] : List Nat).Nodup; decide), [.par 0 o3, .dat (tblD T), .par 1 (.dN (tab nk vS WD))], rfl, _, _, .d (webD W d), _, e3, rfl, rfl, ⟨.d (webD W d), rfl, _, rfl, ?_⟩⟩)))
    exact ⟨[.par k o4, .dat (.int most)], parsBack_par.trans rfl, o4, W, d, rfl, rfl, hg4, hGW, hd⟩
  obtain ⟨f, r, h1, o', W, d, rfl, rfl, h2, h3⟩ := key
  exact ⟨o', W, d, h1, h2, h3⟩
end K28
/-! k28 in plain Lean: the links, as the law and as the program lists them -/
namespace K28
open PySem hiding Env
open PySem.W PyProof.Rows L2 HD G
/-- texts in order -/
def sortW (r : List Str) : List Str := (sortP (txL r)).map unS
theorem sortW_ok {r : List Str} (h : ∀ x ∈ r, PyData.strOk x = true) : sortedD [.tuple (txL r)] = some (.l (txL (sortW r))) ∧ (sortW r).Perm r := by
  obtain ⟨r', e1, e2, e3⟩ := sorted_strs h
  have : sortW r = r' := by
    have e4 : sortedD [.tuple (txL r)] = (if okSort (txL r) && G.sortable (txL r) then some (Res.l (sortP (txL r))) else none) := rfl
    rw [e4] at e2
    split at e2
    · have : sortP (txL r) = txL r' := by
        injection e2 with e2
        injection e2
      unfold sortW
      rw [this]
      unfold txL
      rw [List.map_map]
      exact (List.map_congr_left fun x _ => rfl).trans (List.map_id' r')
    · cases e2
  rw [this]
  exact ⟨e2, e3⟩
def ltS (a b : Str) : Bool := decide (a.cps.toList < b.cps.toList)
def rowLinks (p : Str × List Str) : List Dart := ((sortW p.2).filter fun b => ltS p.1 b).map fun b => (p.1, b)
/-- the links of a map -/
def links (W : Web) : List Dart := W.flatMap rowLinks
theorem mem_links {W : Web} (hW : GoodW W) {d : Dart} : d ∈ links W ↔ d ∈ darts W ∧ ltS d.1 d.2 = true := by
  unfold links
  rw [List.mem_flatMap, mem_darts]
  constructor
  · rintro ⟨⟨a, r⟩, h1, h2⟩
    obtain ⟨b, h3, rfl⟩ := List.mem_map.mp h2
    obtain ⟨h4, h5⟩ := List.mem_filter.mp h3
    exact ⟨⟨r, h1, ((sortW_ok fun x hx => hW.strok h1 hx).2.mem_iff.mp h4)⟩, h5⟩
  · rintro ⟨⟨r, h1, h2⟩, h3⟩
    exact ⟨(d.1, r), h1, List.mem_map.mpr ⟨d.2, List.mem_filter.mpr ⟨(sortW_ok fun x hx => hW.strok h1 hx).2.mem_iff.mpr h2, h3⟩, rfl⟩⟩
theorem links_len {W : Web} (hW : GoodW W) : ∀ i, (links (W.take i)).length ≤ 4 * i := fun i => by
  induction i with
  | zero => exact Nat.le_refl _
  | succ i ih =>
    by_cases hi : i < W.length
    · have e : links (W.take (i + 1)) = links (W.take i) ++ rowLinks W[i] := by
        unfold links
        rw [List.take_succ_eq_append_getElem hi, List.flatMap_append]
        simp
      rw [e, List.length_append]
      have hm : (W[i].1, W[i].2) ∈ W := List.getElem_mem hi
      have : (rowLinks W[i]).length ≤ 4 := by
        unfold rowLinks
        rw [List.length_map]
        refine Nat.le_trans (List.length_filter_le _ _) ?_
        rw [(sortW_ok fun x hx => hW.strok hm hx).2.length_eq]
        exact (hW.row _ _ hm).2.2.1
      omega
    · rw [List.take_of_length_le (by omega)]
      rw [List.take_of_length_le (by omega)] at ih
      omega
theorem GoodW.llen {W : Web} (hW : GoodW W) : (links W).length ≤ 160 := by
  have := links_len hW W.length
  rw [List.take_length] at this
  have := hW.le
  omega
theorem lt_str (a b : Str) : lt2 false (.str a) (.str b) = some (.d (.bool (ltS a b))) := rfl
theorem law_links_ok {W : Web} (hW : GoodW W) (od : Dart) : m_law_links [.dat (webD W od)] = some (.dt (.list ((links W).map sD)), [.dat (webD W od)]) := by
  have key : ∃ f r, m_law_links [.dat (webD W od)] = some (f, r) ∧ f = .dt (.list ((links W).map sD)) ∧ r = [.dat (webD W od)] := by
    refine fn_of ?_
    show WS b_law_links [.dat (webD W od), .non, .non, .non, .non] _
    refine WS_seq (WS_set (.keep (a := .d (.list [])) rfl ⟨_, rfl, ?_⟩))
    show WS _ [.dat (webD W od), .dat (.list []), .non, .non, .non] _
    refine WS_seq (WS_for (E_src (.keep (a := .d (.tuple (W.map plD))) rfl ⟨W.map plD, .inr rfl, fun i ρ => ∃ a b, ρ = [.dat (webD W od), .dat (.list ((links (W.take i)).map sD)), a, b, .non], ⟨_, _, rfl⟩, ?_, ?_⟩)))
    · rintro i x ρ hx ⟨a, b, rfl⟩
      rw [List.getElem?_map] at hx
      obtain ⟨⟨n, r⟩, hn, rfl⟩ := Option.map_eq_some_iff.mp hx
      obtain ⟨hi, hn2⟩ := List.getElem?_eq_some_iff.mp hn
      have hmem : (n, r) ∈ W := List.mem_of_getElem? hn
      obtain ⟨e1, e2⟩ := sortW_ok (r := r) fun x hx => hW.strok hmem hx
      have hr4 := (hW.row n r hmem).2.2.1
      refine ⟨_, rfl, ?_⟩
      show WS _ [.dat (webD W od), .dat (.list ((links (W.take i)).map sD)), .dat (.str n), .dat (vW r), .non] _
      refine WS_set (E_fz (E_m2 (.keep (a := .d (.list ((links (W.take i)).map sD))) rfl (E_fz ?_))))
      refine E_lc PyData.str (fun b => if ltS n b = true then some (sD (n, b)) else none) (E_src (E_fz (E_mN (E_cons (.keep (a := .d (vW r)) rfl (E_nil ⟨_, _, rfl, e1, ⟨.d (.list (txL (sortW r))), rfl, _, .inl rfl, sortW r, rfl, ?_, ?_, ?_, ?_⟩⟩))))))
      · intro b hb
        refine ⟨_, rfl, E_tst (E_m2 (.keep (a := .d (.str n)) rfl (.keep (a := .d (.str b)) rfl ⟨_, _, _, rfl, rfl, lt_str n b, _, rfl, ?_⟩)))⟩
        by_cases hl : ltS n b = true
        · rw [if_pos hl, if_pos hl]
          exact .keep (a := .d (sD (n, b))) rfl ⟨_, rfl, rfl, rfl⟩
        · rw [if_neg hl, if_neg hl]
          exact ⟨rfl, rfl⟩
      · rw [e2.length_eq]
        exact Nat.lt_of_le_of_lt hr4 (by decide)
      · intro v hv
        rw [List.mem_singleton.mp hv]
        exact .inl rfl
      · have el : ((sortW r).filterMap fun b => if ltS n b = true then some (sD (n, b)) else none) = (rowLinks (n, r)).map sD := by
          rw [filterMap_if]
          unfold rowLinks
          rw [List.map_map]
          have : ((sortW r).filter fun b => decide (ltS n b = true)) = (sortW r).filter fun b => ltS n b := List.filter_congr fun b _ => by simp
          rw [this]
          rfl
        rw [el]
        have hll := links_len hW i
        have hi40 := hW.le
        have h4 : (rowLinks (n, r)).length ≤ 4 := by
          unfold rowLinks
          rw [List.length_map]
          refine Nat.le_trans (List.length_filter_le _ _) ?_
          rw [e2.length_eq]
          exact hr4
        refine ⟨_, rfl, _, _, .l ((links (W.take (i + 1))).map sD), rfl, rfl, ?_, ⟨.d (.list ((links (W.take (i + 1))).map sD)), rfl, _, rfl, .dat (.str n), .dat (vW r), rfl⟩⟩
        have e : links (W.take (i + 1)) = links (W.take i) ++ rowLinks (n, r) := by
          unfold links
          rw [List.take_succ_eq_append_getElem hi, List.flatMap_append, hn2]
          simp
        show (if ((links (W.take i)).map sD).length + ((rowLinks (n, r)).map sD).length < LIM then some (Res.l ((links (W.take i)).map sD ++ (rowLinks (n, r)).map sD)) else none) = _
        rw [if_pos, e, List.map_append]
        rw [List.length_map, List.length_map]
        exact Nat.lt_of_le_of_lt (show _ ≤ 200 by omega) (by decide)
    · rintro ρ ⟨a, b, rfl⟩
      rw [List.length_map, List.take_length]
      exact WS_ret (.keep (a := .d (.list ((links W).map sD))) rfl ⟨_, rfl, _, rfl, rfl, rfl⟩)
  obtain ⟨f, r, h, rfl, rfl⟩ := key
  exact h
end K28
/-! k28 in plain Lean: the program's lists of darts and links, its table of ways -/
namespace K28
open PySem hiding Env
open PySem.W PyProof.Rows L2 HD G
def rowDarts (p : Str × List Str) : List Dart := (sortW p.2).map fun b => (p.1, b)
def dlist (W : Web) : List Dart := W.flatMap rowDarts
theorem dlist_links (W : Web) : (dlist W).filter (fun d => ltS d.1 d.2) = links W := by
  unfold dlist links
  induction W with
  | nil => rfl
  | cons p W ih =>
    rw [List.flatMap_cons, List.flatMap_cons, List.filter_append, ih]
    congr 1
    unfold rowDarts rowLinks
    rw [List.filter_map]
    rfl
theorem rowDarts_len {W : Web} (hW : GoodW W) {p : Str × List Str} (h : p ∈ W) : (rowDarts p).length ≤ 4 := by
  have hm : (p.1, p.2) ∈ W := h
  unfold rowDarts
  rw [List.length_map, (sortW_ok fun x hx => hW.strok hm hx).2.length_eq]
  exact (hW.row _ _ hm).2.2.1
theorem flatMap_len {α β : Type} {f : α → List β} {n : Nat} : ∀ {l : List α}, (∀ x ∈ l, (f x).length ≤ n) → (l.flatMap f).length ≤ n * l.length
  | [], _ => Nat.zero_le _
  | x :: l, h => by
    rw [List.flatMap_cons, List.length_append, List.length_cons]
    have := flatMap_len (l := l) fun y hy => h y (List.mem_cons_of_mem _ hy)
    have := h x (List.mem_cons_self ..)
    rw [Nat.mul_succ]
    omega
theorem dlist_len {W : Web} (hW : GoodW W) : (dlist W).length ≤ 160 := by
  have := flatMap_len (f := rowDarts) (n := 4) (l := W) fun p hp => rowDarts_len hW hp
  unfold dlist
  have := hW.le
  omega
theorem dart_list_ok {W : Web} (hW : GoodW W) (od : Dart) : m_dart_list [.dat (webD W od)] = some (.dt (.list ((dlist W).map sD)), [.dat (webD W od)]) := by
  have key : ∃ f r, m_dart_list [.dat (webD W od)] = some (f, r) ∧ f = .dt (.list ((dlist W).map sD)) ∧ r = [.dat (webD W od)] := by
    refine fn_of ?_
    show WS b_dart_list [.dat (webD W od), .non, .non, .non] _
    refine WS_ret (E_fz (E_lc2 plD (fun p => (rowDarts p).map sD) (by decide) (E_src (.keep (a := .d (.tuple (W.map plD))) rfl ⟨_, .inr rfl, W, rfl, ?_, ?_, ?_, ?_⟩))))
    · rintro ⟨n, r⟩ hp
      obtain ⟨e1, e2⟩ := sortW_ok (r := r) fun x hx => hW.strok hp hx
      refine ⟨_, rfl, .keep (a := true) rfl ⟨rfl, E_src (E_fz (E_mN (E_cons (.keep (a := .d (vW r)) rfl (E_nil ⟨_, _, rfl, e1, ⟨.d (.list (txL (sortW r))), rfl, _, .inl rfl, Str, PyData.str, fun b => some (sD (n, b)), sortW r, rfl, ?_, ?_, rfl⟩⟩)))))⟩⟩
      · intro b hb
        refine ⟨_, rfl, .keep (a := true) rfl ?_⟩
        rw [if_pos rfl]
        exact .keep (a := .d (sD (n, b))) rfl ⟨_, rfl, rfl, rfl⟩
      · unfold rowDarts
        rw [List.filterMap_eq_map', List.map_map]
        rfl
    · have : (W.flatMap fun p => (rowDarts p).map sD).length ≤ 4 * W.length := flatMap_len fun p hp => by
        rw [List.length_map]
        exact rowDarts_len hW hp
      have := hW.le
      exact Nat.lt_of_le_of_lt (show _ ≤ 160 by omega) (by decide)
    · intro v hv
      simp only [List.mem_cons, List.not_mem_nil, or_false] at hv
      rcases hv with rfl | rfl | rfl <;> exact .inl rfl
    · have e : (W.flatMap fun p => (rowDarts p).map sD) = (dlist W).map sD := by
        unfold dlist
        rw [List.map_flatMap]
      rw [e]
      exact ⟨_, rfl, _, rfl, _, rfl, rfl, rfl⟩
  obtain ⟨f, r, h, rfl, rfl⟩ := key
  exact h
theorem link_list_ok {W : Web} (hW : GoodW W) (od : Dart) : m_link_list [.dat (webD W od)] = some (.dt (.list ((links W).map sD)), [.dat (webD W od)]) := by
  have key : ∃ f r, m_link_list [.dat (webD W od)] = some (f, r) ∧ f = .dt (.list ((links W).map sD)) ∧ r = [.dat (webD W od)] := by
    refine fn_of ?_
    show WS b_link_list [.dat (webD W od), .non, .non] _
    refine WS_ret (E_fz (E_lc sD (fun d => if ltS d.1 d.2 = true then some (sD d) else none) (E_src (E_fz (E_call1 (d := webD W od) rfl (dart_list_ok hW od) ⟨_, rfl, _, .inl rfl, dlist W, rfl, ?_, ?_, ?_, ?_⟩)))))
    · intro d hd
      refine ⟨_, rfl, E_tst (E_m2 (.keep (a := .d (.str d.1)) rfl (.keep (a := .d (.str d.2)) rfl ⟨_, _, _, rfl, rfl, lt_str d.1 d.2, _, rfl, ?_⟩)))⟩
      by_cases hl : ltS d.1 d.2 = true
      · rw [if_pos hl, if_pos hl]
        exact .keep (a := .d (sD d)) rfl ⟨_, rfl, rfl, rfl⟩
      · rw [if_neg hl, if_neg hl]
        exact ⟨rfl, rfl⟩
    · exact Nat.lt_of_le_of_lt (dlist_len hW) (by decide)
    · intro v hv
      simp only [List.mem_cons, List.not_mem_nil, or_false] at hv
      rcases hv with rfl | rfl <;> exact .inl rfl
    · rw [filterMap_if]
      have : ((dlist W).filter fun d => decide (ltS d.1 d.2 = true)) = links W := by
        rw [← dlist_links]
        exact List.filter_congr fun d _ => by simp
      rw [this]
      exact ⟨_, rfl, _, rfl, _, rfl, rfl, rfl⟩
  obtain ⟨f, r, h, rfl, rfl⟩ := key
  exact h
end K28
/-! k28 in plain Lean: turn_table, names_of, corner_place, link_place -/
namespace K28
open PySem hiding Env
open PySem.W PyProof.Rows L2 HD G
/-- one turn of a dict comprehension -/
def DcTurn (f : Mt) (tt : Mi Bool) (ke el : Mi Val) (vs : List Nat) (ρ1 : G.Env) (x : PyData) (k : Str) (d : PyData) : Prop :=
  ∃ ρ2, f x (wipeE ρ1 vs) = some ρ2 ∧ tt ρ2 = some (true, ρ2) ∧ fz ke ρ2 = some (.d (.str k), ρ2) ∧ fz el ρ2 = some (.d d, ρ2) ∧ wipeE ρ2 vs = wipeE ρ1 vs
theorem goDc_eq {f : Mt} {tt : Mi Bool} {ke el : Mi Val} {vs : List Nat} {ρ1 : G.Env} {β γ : Type} {enc : γ → PyData} {key : γ → Str} {val : γ → β} {v : β → PyData} : ∀ {xs : List γ} (T : List (Str × β)) (ρ : G.Env), wipeE ρ vs = wipeE ρ1 vs → (∀ x ∈ xs, DcTurn f tt ke el vs ρ1 (enc x) (key x) (v (val x))) → T.length + xs.length < LIM →
    ∃ ρf, goDc f tt ke el vs (xs.map enc) (tab kS v T) ρ = some (tab kS v (xs.foldl (fun T x => putA T (key x) (val x)) T), ρf) ∧ wipeE ρf vs = wipeE ρ1 vs
  | [], T, ρ, e, _, _ => ⟨ρ, rfl, e⟩
  | x :: xs, T, ρ, e, h, hl => by
    obtain ⟨ρ2, h1, h2, h3, h4, h5⟩ := h x (List.mem_cons_self ..)
    rw [List.length_cons] at hl
    have hp : (putA T (key x) (val x)).length ≤ T.length + 1 := putA_length
    obtain ⟨ρf, h6, h7⟩ := goDc_eq (xs := xs) (putA T (key x) (val x)) ρ2 h5 (fun y hy => h y (List.mem_cons_of_mem _ hy)) (by omega)
    refine ⟨ρf, ?_, h7⟩
    rw [List.map_cons, goDc, e, h1]
    show ((tt ρ2).bind _) = _
    rw [h2]
    show ((fz ke ρ2).bind _) = _
    rw [h3]
    show ((fz el ρ2).bind _) = _
    rw [h4]
    show (if (tab kS v T).length < LIM then goDc f tt ke el vs (xs.map enc) (putP (tab kS v T) (kS (key x)) (v (val x))) ρ2 else none) = _
    rw [if_pos (by unfold tab; rw [List.length_map]; omega), putP_tab kS_inj, h6]
    rfl
theorem fold_put {β : Type} : ∀ {W T : List (Str × β)}, ((T ++ W).map (·.1)).Nodup → W.foldl (fun T p => putA T p.1 p.2) T = T ++ W
  | [], T, _ => (List.append_nil T).symm
  | p :: W, T, h => by
    have hn : p.1 ∉ T.map (·.1) := fun z => by
      rw [List.map_append, List.nodup_append] at h
      exact h.2.2 p.1 z p.1 (by simp) rfl
    rw [List.foldl_cons, putA_new hn, fold_put (by rw [List.append_assoc]; exact h), List.append_assoc]
    rfl
def tblW (W : Web) : PyData := .dict ((tab kS vW W).map fun e => (kD e.1, e.2))
theorem turn_table_ok {W : Web} (hW : GoodW W) (od : Dart) : m_turn_table [.dat (webD W od)] = some (.dt (tblW W), [.dat (webD W od)]) := by
  have key : ∃ f r, m_turn_table [.dat (webD W od)] = some (f, r) ∧ f = .dt (tblW W) ∧ r = [.dat (webD W od)] := by
    refine fn_of ?_
    show WS b_turn_table [.dat (webD W od), .non, .non] _
    obtain ⟨ρf, h1, h2⟩ := goDc_eq (f := tgT [tgN 1, tgN 2]) (tt := mYes) (ke := mVar 1) (el := mVar 2) (vs := [1, 2]) (ρ1 := [.dat (webD W od), .non, .non]) (enc := plD) (key := fun p => p.1) (val := fun p => p.2) (v := vW) (xs := W) [] [.dat (webD W od), .non, .non] rfl (fun p _ => ⟨_, rfl, rfl, rfl, rfl, rfl⟩) (Nat.lt_of_le_of_lt (show _ ≤ 40 by have := hW.le; simpa using this) (by decide))
    rw [fold_put (by simpa using hW.nd), List.nil_append] at h1
    have h3 : restE [.dat (webD W od), .non, .non] ρf [1, 2] = some [.dat (webD W od), .non, .non] := restE_back (by
      intro v hv
      simp only [List.mem_cons, List.not_mem_nil, or_false] at hv
      rcases hv with rfl | rfl <;> exact .inl rfl) h2
    have hdc : mDc (mSrc (m2 ixD (mVar 0) (mC (.int 0)))) (tgT [tgN 1, tgN 2]) mYes (mVar 1) (mVar 2) [1, 2] [.dat (webD W od), .non, .non] = some (.fr (.dK (tab kS vW W)), [.dat (webD W od), .non, .non]) := by
      show ((goDc (tgT [tgN 1, tgN 2]) mYes (mVar 1) (mVar 2) [1, 2] (W.map plD) [] [.dat (webD W od), .non, .non]).bind fun r => (chk (∀ v ∈ ([1, 2] : List Nat), v < 3)).bind fun _ => (restE [.dat (webD W od), .non, .non] r.2 [1, 2]).map fun ρ2 => (Val.fr (.dK r.1), ρ2)) = _
      have h1' : goDc (tgT [tgN 1, tgN 2]) mYes (mVar 1) (mVar 2) [1, 2] (W.map plD) [] [.dat (webD W od), .non, .non] = some (tab kS vW W, ρf) := h1
      rw [h1']
      show ((chk (∀ v ∈ ([1, 2] : List Nat), v < 3)).bind fun _ => (restE [.dat (webD W od), .non, .non] ρf [1, 2]).map fun ρ2 => (Val.fr (.dK (tab kS vW W)), ρ2)) = _
      rw [show chk (∀ v ∈ ([1, 2] : List Nat), v < 3) = some () from if_pos (by decide), h3]
      rfl
    exact WS_ret (E_fz (.keep hdc ⟨.d (tblW W), rfl, _, rfl, _, rfl, rfl, rfl⟩))
  obtain ⟨f, r, h, rfl, rfl⟩ := key
  exact h
theorem names_of_ok {W : Web} (hW : GoodW W) (od : Dart) : m_names_of [.dat (webD W od)] = some (.dt (.tuple (txL (W.map (·.1)))), [.dat (webD W od)]) := by
  have key : ∃ f r, m_names_of [.dat (webD W od)] = some (f, r) ∧ f = .dt (.tuple (txL (W.map (·.1)))) ∧ r = [.dat (webD W od)] := by
    refine fn_of ?_
    show WS b_names_of [.dat (webD W od), .non, .non] _
    refine WS_ret (E_fz (E_mN (E_cons (E_fz (E_lc plD (fun p => some (.str p.1)) (E_src (.keep (a := .d (.tuple (W.map plD))) rfl ⟨_, .inr rfl, W, rfl, ?_, ?_, ?_, ?_⟩)))))))
    · intro p hp
      refine ⟨_, rfl, .keep (a := true) rfl ?_⟩
      rw [if_pos rfl]
      exact .keep (a := .d (.str p.1)) rfl ⟨_, rfl, rfl, rfl⟩
    · exact Nat.lt_of_le_of_lt hW.le (by decide)
    · intro v hv
      simp only [List.mem_cons, List.not_mem_nil, or_false] at hv
      rcases hv with rfl | rfl <;> exact .inl rfl
    · have e : (W.filterMap fun p => some (PyData.str p.1)) = txL (W.map (·.1)) := by
        unfold txL
        rw [List.filterMap_eq_map', List.map_map]
        rfl
      rw [e]
      exact ⟨_, rfl, E_nil ⟨_, _, rfl, rfl, _, rfl, _, rfl, _, rfl, rfl, rfl⟩⟩
  obtain ⟨f, r, h, rfl, rfl⟩ := key
  exact h
end K28
/-! k28 in plain Lean: _law_same says True of two alike -/
namespace K28
open PySem hiding Env
open PySem.W PyProof.Rows L2 HD G
mutual
def sz : PyData → Nat
  | .tuple xs => szAll xs + 1
  | _ => 1
def szAll : List PyData → Nat
  | [] => 0
  | x :: xs => sz x + szAll xs
end
theorem szAll_app : ∀ (xs ys : List PyData), szAll (xs ++ ys) = szAll xs + szAll ys
  | [], ys => by simp [szAll]
  | x :: xs, ys => by
    rw [List.cons_append, szAll, szAll, szAll_app xs ys]
    omega
theorem sz_pos (d : PyData) : 1 ≤ sz d := by
  cases d <;> simp [sz]
theorem len_sz : ∀ xs : List PyData, xs.length ≤ szAll xs
  | [] => Nat.zero_le _
  | x :: xs => by
    rw [List.length_cons, szAll]
    have := len_sz xs
    have := sz_pos x
    omega
def pr (x : PyData) : PyData := .tuple [x, x]
theorem E_not {a : Mi Bool} {ρ : G.Env} {Q : Bool → G.Env → Prop} (h : E a ρ fun x ρ1 => Q (!x) ρ1) : E (mNot a) ρ Q := by
  obtain ⟨x, ρ1, h1, q⟩ := h
  exact ⟨_, _, by unfold mNot; rw [h1]; rfl, q⟩
theorem eq_self {d : PyData} (h : (∃ i, d = .int i) ∨ ∃ x, d = .str x) : eqD true d d = some (.d (.bool false)) := by
  rcases h with ⟨i, rfl⟩ | ⟨x, rfl⟩
  · show some (Res.d (.bool (!decide (V.int i = V.int i)))) = _
    rw [decide_eq_true rfl]
    rfl
  · show some (Res.d (.bool (!decide (V.str x = V.str x)))) = _
    rw [decide_eq_true rfl]
    rfl
def smst (a b : PyData) (l : List PyData) (c d e : Sl) : G.Env := [.dat a, .dat b, .own (.lst (l.map pr)), c, d, e]
def SmI (a b : PyData) (m : Nat) (ρ : G.Env) : Prop := ∃ l c d e, ρ = smst a b l c d e ∧ niceAll l = true ∧ szAll l ≤ m ∧ szAll l ≤ 50000
theorem same_ok {d : PyData} (hn : nice d = true) (hs : sz d ≤ 50000) : m_law_same [.dat d, .dat d] = some (.dt (.bool true), [.dat d, .dat d]) := by
  have key : ∃ f r, m_law_same [.dat d, .dat d] = some (f, r) ∧ f = .dt (.bool true) ∧ r = [.dat d, .dat d] := by
    refine fn_of ?_
    show WS b_law_same [.dat d, .dat d, .non, .non, .non, .non] _
    refine WS_seq (WS_setO (.keep (a := .fr (.lst [pr d])) rfl ⟨_, rfl, ?_⟩))
    refine WS_seq (WS_while (SmI d d) ?_ FUEL (sz d) _ (Nat.lt_of_le_of_lt hs (by decide)) ⟨[d], _, _, _, rfl, by rw [niceAll, hn]; rfl, by simp [szAll], by simpa [szAll] using hs⟩)
    rintro m ρ ⟨l, c, d', e, rfl, hl, hm, hb⟩
    refine E_tst (E_m2 (.keep (a := .d (.int ((l.map pr).length : Int))) rfl (.keep (a := .d (.int 0)) rfl ⟨_, _, .d (.bool (decide ((0 : Int) < ((l.map pr).length : Int)))), rfl, rfl, rfl, _, rfl, ?_⟩)))
    by_cases hl0 : l = []
    · subst hl0
      rw [if_neg (by decide)]
      exact WS_ret (.keep (a := .d (.bool true)) rfl ⟨_, rfl, _, rfl, rfl, rfl⟩)
    · have hlp : 0 < l.length := List.length_pos_iff.mpr hl0
      rw [if_pos (by rw [List.length_map]; exact decide_eq_true (by omega))]
      obtain ⟨l', x, rfl⟩ : ∃ l' x, l = l' ++ [x] := ⟨l.dropLast, l.getLast hl0, (List.dropLast_concat_getLast hl0).symm⟩
      have hsz := szAll_app l' [x]
      have hx1 : szAll [x] = sz x := by simp [szAll]
      have hxp := sz_pos x
      have hnl : niceAll l' = true ∧ nice x = true := by
        rw [niceAll_iff] at hl
        exact ⟨niceAll_iff.mpr fun y hy => hl y (List.mem_append_left _ hy), hl x (by simp)⟩
      refine ⟨m - 1, by omega, ?_⟩
      have hpop : obPop (.lst ((l' ++ [x]).map pr)) [] = some (.lst (l'.map pr), pr x) := by
        have e : (l' ++ [x]).map pr = l'.map pr ++ [pr x] := by rw [List.map_append]; rfl
        rw [e]
        show (((l'.map pr ++ [pr x])[(l'.map pr ++ [pr x]).length - 1]?).map fun d => (Ob.lst (l'.map pr ++ [pr x]).dropLast, d)) = _
        rw [List.length_append, List.length_singleton, Nat.add_sub_cancel, List.getElem?_append_right (Nat.le_refl _), Nat.sub_self, List.dropLast_concat]
        rfl
      refine WS_seq (WS_asg (E_fz (E_meth ⟨_, rfl, rfl, E_nil ⟨[], _, _, _, rfl, rfl, hpop, ⟨.d (pr x), rfl, _, _, rfl, rfl, ?_⟩⟩⟩)))
      show WS _ (smst d d l' (.dat x) (.dat x) e) _
      have done : SmI d d (m - 1) (smst d d l' (.dat x) (.dat x) e) := ⟨l', _, _, _, rfl, hnl.1, by omega, by omega⟩
      cases x with
      | tuple xs =>
        have hxs : niceAll xs = true := by simpa [nice] using hnl.2
        have hsx : sz (.tuple xs) = szAll xs + 1 := by simp [sz]
        have hlx := len_sz xs
        refine WS_if (E_tst (.keep (a := .d (.bool true)) rfl ⟨true, rfl, ?_⟩))
        rw [if_pos rfl]
        refine WS_seq (WS_if (E_or (E_not (E_tst (.keep (a := .d (.bool true)) rfl ⟨true, rfl, ?_⟩)))))
        rw [if_neg (by decide)]
        refine E_tst (E_m2 (.keep (a := .d (.int (xs.length : Int))) rfl (.keep (a := .d (.int (xs.length : Int))) rfl ⟨_, _, _, rfl, rfl, eq_self (.inl ⟨_, rfl⟩), false, rfl, ?_⟩)))
        rw [if_neg (by decide)]
        refine ⟨_, rfl, ?_⟩
        refine WS_for (E_rng1 (.keep (a := [.d (.int (xs.length : Int))]) rfl ⟨(xs.length : Int), rfl, ⟨by omega, by omega⟩, fun i ρ => ∃ e, ρ = smst d d (l' ++ xs.take i) (.dat (.tuple xs)) (.dat (.tuple xs)) e, ?_, ?_, ?_⟩))
        · exact ⟨e, by rw [List.take_zero, List.append_nil]⟩
        · rintro i y ρ hy ⟨e, rfl⟩
          unfold G.intsFrom at hy
          rw [List.getElem?_map] at hy
          obtain ⟨k, hk, rfl⟩ := Option.map_eq_some_iff.mp hy
          have hkl := (List.getElem?_eq_some_iff.mp hk).1
          rw [List.length_range] at hkl
          have hke : k = i := by
            rw [List.getElem?_range hkl] at hk
            exact (Option.some.inj hk).symm
          subst hke
          have hkx : k < xs.length := by omega
          refine ⟨_, rfl, ?_⟩
          have hz : ((0 : Int) + (k : Int)) = (k : Int) := Int.zero_add _
          rw [hz]
          have hg := ixD_tup (xs := xs) (n := k) (List.getElem?_eq_getElem hkx)
          show WS _ (smst d d (l' ++ xs.take k) (.dat (.tuple xs)) (.dat (.tuple xs)) (.dat (.int (k : Int)))) _
          refine WS_exp (E_append (l0 := (l' ++ xs.take k).map pr) rfl (E_fz (E_tup (E_cons (E_fz (E_m2 (.keep (a := .d (.tuple xs)) rfl (.keep (a := .d (.int (k : Int))) rfl ⟨_, _, _, rfl, rfl, hg, ⟨.d xs[k], rfl, ?_⟩⟩))))))))
          refine E_cons (E_fz (E_m2 (.keep (a := .d (.tuple xs)) rfl (.keep (a := .d (.int (k : Int))) rfl ⟨_, _, _, rfl, rfl, hg, ⟨.d xs[k], rfl, E_nil ⟨_, rfl, ⟨.d (pr xs[k]), rfl, _, (l' ++ xs.take k).map pr, rfl, rfl, ?_, ?_⟩⟩⟩⟩))))
          · rw [List.length_map, List.length_append, List.length_take]
            have := len_sz l'
            exact Nat.lt_of_le_of_lt (show _ ≤ 50000 by omega) (by decide)
          · refine ⟨.dat (.int (k : Int)), ?_⟩
            have e : xs.take (k + 1) = xs.take k ++ [xs[k]] := List.take_succ_eq_append_getElem hkx
            unfold smst
            rw [e, ← List.append_assoc, List.map_append (l₂ := [xs[k]])]
            rfl
        · rintro ρ ⟨e, rfl⟩
          have hll : (G.intsFrom 0 ((xs.length : Int)).toNat).length = xs.length := by
            unfold G.intsFrom
            rw [List.length_map, List.length_range]
            omega
          rw [hll, List.take_length]
          refine ⟨l' ++ xs, _, _, _, rfl, ?_, ?_, ?_⟩
          · rw [niceAll_iff]
            intro y hy
            rcases List.mem_append.mp hy with z | z
            · exact niceAll_iff.mp hnl.1 y z
            · exact niceAll_iff.mp hxs y z
          · rw [szAll_app]
            omega
          · rw [szAll_app]
            omega
      | none =>
        refine WS_if (E_tst (.keep (a := .d (.bool false)) rfl ⟨false, rfl, ?_⟩))
        rw [if_neg (by decide)]
        refine WS_if (E_tst (.keep (a := .d (.bool true)) rfl ⟨true, rfl, ?_⟩))
        rw [if_pos rfl]
        refine WS_if (E_tst (.keep (a := .d (.bool false)) rfl ⟨false, rfl, ?_⟩))
        rw [if_neg (by decide)]
        exact ⟨_, rfl, done⟩
      | str x =>
        refine WS_if (E_tst (.keep (a := .d (.bool false)) rfl ⟨false, rfl, ?_⟩))
        rw [if_neg (by decide)]
        refine WS_if (E_tst (.keep (a := .d (.bool false)) rfl ⟨false, rfl, ?_⟩))
        rw [if_neg (by decide)]
        refine WS_if (E_tst (.keep (a := .d (.bool true)) rfl ⟨true, rfl, ?_⟩))
        rw [if_pos rfl]
        refine WS_if (E_or (E_not (E_tst (.keep (a := .d (.bool true)) rfl ⟨true, rfl, ?_⟩))))
        rw [if_neg (by decide)]
        refine E_tst (E_m2 (.keep (a := .d (.str x)) rfl (.keep (a := .d (.str x)) rfl ⟨_, _, _, rfl, rfl, eq_self (.inr ⟨_, rfl⟩), false, rfl, ?_⟩)))
        rw [if_neg (by decide)]
        exact ⟨_, rfl, done⟩
      | int x =>
        refine WS_if (E_tst (.keep (a := .d (.bool false)) rfl ⟨false, rfl, ?_⟩))
        rw [if_neg (by decide)]
        refine WS_if (E_tst (.keep (a := .d (.bool false)) rfl ⟨false, rfl, ?_⟩))
        rw [if_neg (by decide)]
        refine WS_if (E_tst (.keep (a := .d (.bool false)) rfl ⟨false, rfl, ?_⟩))
        rw [if_neg (by decide)]
        refine WS_if (E_or (E_not (E_tst (.keep (a := .d (.bool true)) rfl ⟨true, rfl, ?_⟩))))
        rw [if_neg (by decide)]
        refine E_or (E_tst (.keep (a := .d (.bool false)) rfl ⟨false, rfl, ?_⟩))
        rw [if_neg (by decide)]
        refine E_tst (E_m2 (.keep (a := .d (.int x)) rfl (.keep (a := .d (.int x)) rfl ⟨_, _, _, rfl, rfl, eq_self (.inl ⟨_, rfl⟩), false, rfl, ?_⟩)))
        rw [if_neg (by decide)]
        exact ⟨_, rfl, done⟩
      | bool b => simp [nice] at hnl
      | list xs => simp [nice] at hnl
      | dict xs => simp [nice] at hnl
  obtain ⟨f, r, h, rfl, rfl⟩ := key
  exact h
end K28
/-! k28 in plain Lean: places of corners and links -/
namespace K28
open PySem hiding Env
open PySem.W PyProof.Rows L2 HD G
/-- a def on data alone -/
def DF (mf : Mf) (ds : List PyData) (x : PyData) : Prop := mf (ds.map Sl.dat) = some (.dt x, ds.map Sl.dat)
theorem E_callD {mf : Mf} {ms : List (Mi Val)} {ρ : G.Env} (ds : List PyData) {x : PyData} {Q : Val → G.Env → Prop} (hm : mArgs ms ρ = some (ds.map AV.d, ρ)) (hf : DF mf ds x) (q : Q (.d x) ρ) : E (mCall mf ms) ρ Q := by
  have hb : ∀ ds : List PyData, bors (ds.map AV.d) = [] := fun ds => by
    induction ds with
    | nil => rfl
    | cons d ds ih => exact ih
  have hbind : ∀ (ds : List PyData) (n : Nat), bindA ρ n (ds.map AV.d) = some (ds.map Sl.dat) := fun ds n => by
    induction ds with
    | nil => rfl
    | cons d ds ih =>
      show ((bindA ρ n (ds.map AV.d)).map fun r => Sl.dat d :: r) = _
      rw [ih]
      rfl
  have hback : ∀ (ds : List PyData) (ρ : G.Env), backA ρ (ds.map AV.d) (ds.map Sl.dat) = some ρ := fun ds ρ => by
    induction ds with
    | nil => rfl
    | cons d ds ih => exact ih
  exact E_call (.keep hm ⟨by rw [hb]; exact List.nodup_nil, ds.map Sl.dat, hbind ds 0, .dt x, ds.map Sl.dat, .d x, ρ, hf, rfl, hback ds ρ, q⟩)
theorem DF.of {N : Nat} {mb : Ms} {ds : List PyData} {x : PyData} (h : WS mb (ds.map Sl.dat ++ List.replicate (N - ds.length) .non) fun o => ∃ ρ', o = .rt x ρ' ∧ parsBack (ds.map Sl.dat) ρ' = some (ds.map Sl.dat)) : DF (fn N mb) ds x := by
  obtain ⟨o, h1, ρ', rfl, h2⟩ := h
  unfold DF fn
  rw [List.length_map, h1]
  show ((parsBack (ds.map Sl.dat) ρ').map fun r => (FR.dt x, r)) = _
  rw [h2]
  rfl
theorem first_idx {r : List Str} {a : Str} (h : a ∈ r) {p : Str → Bool} (hp : ∀ x, p x = true ↔ x = a) : firstP p r = some (r.idxOf a) := by
  induction r with
  | nil => cases h
  | cons x xs ih =>
    unfold firstP
    by_cases e : x = a
    · rw [if_pos ((hp x).mpr e), e, List.idxOf_cons_self]
    · rw [if_neg fun z => e ((hp x).mp z)]
      rcases List.mem_cons.mp h with z | z
      · exact absurd z.symm e
      · rw [ih z, List.idxOf_cons, beq_false_of_ne e]
        rfl
theorem idx_tupE {r : List Str} {a : Str} (h : a ∈ r) : idxD (.tuple (txL r)) (.str a) = some (r.idxOf a) := by
  have e : strsOf (txL r) = some r := by
    unfold txL
    clear h
    induction r with
    | nil => rfl
    | cons x xs ih =>
      show ((strsOf (xs.map PyData.str)).map fun l => x :: l) = _
      rw [ih]
      rfl
  show ((strsOf (txL r)).bind fun is => firstP (fun x => decide (x = a)) is) = _
  rw [e]
  exact first_idx h fun x => by rw [decide_eq_true_iff]
theorem firstP_map {α β : Type} {f : α → β} {p : β → Bool} : ∀ l : List α, firstP p (l.map f) = firstP (fun x => p (f x)) l
  | [] => rfl
  | x :: xs => by
    rw [List.map_cons, firstP, firstP, firstP_map xs]
theorem idx_listE {r : List Str} {a : Str} (h : a ∈ r) (hs : ∀ x ∈ r, PyData.strOk x = true) : idxD (.list (txL r)) (.str a) = some (r.idxOf a) := by
  have hok := okList_strs hs
  have fa := str_fine (hs a h)
  unfold idxD
  dsimp only
  rw [if_pos (by rw [niceAll_noDict (fines_nice hok.1), nice_noDict (fine_iff.mp fa).1, fines_shaped hok.1, fine_shaped fa]; rfl)]
  unfold txL
  rw [firstP_map]
  exact first_idx h fun x => by simp [PyData.eqv]
theorem first_idxD {l : List Dart} {d : Dart} (h : d ∈ l) {p : Dart → Bool} (hp : ∀ x ∈ l, (p x = true ↔ x = d)) : firstP p l = some (l.idxOf d) := by
  induction l with
  | nil => cases h
  | cons x xs ih =>
    unfold firstP
    by_cases e : x = d
    · rw [if_pos ((hp x (List.mem_cons_self ..)).mpr e), e, List.idxOf_cons_self]
    · rw [if_neg fun z => e ((hp x (List.mem_cons_self ..)).mp z)]
      rcases List.mem_cons.mp h with z | z
      · exact absurd z.symm e
      · rw [ih z fun y hy => hp y (List.mem_cons_of_mem _ hy), List.idxOf_cons, beq_false_of_ne e]
        rfl
theorem idx_dartE {l : List Dart} {d : Dart} (h : d ∈ l) (hs : ∀ x ∈ l, PyData.strOk x.1 = true ∧ PyData.strOk x.2 = true) : idxD (.list (l.map sD)) (sD d) = some (l.idxOf d) := by
  have hok := okList_darts hs
  have fa := dart_fine (hs d h)
  unfold idxD
  dsimp only
  rw [if_pos (by rw [niceAll_noDict (fines_nice hok.1), nice_noDict (fine_iff.mp fa).1, fines_shaped hok.1, fine_shaped fa]; rfl), firstP_map]
  exact first_idxD h fun x hx => by
    rw [nice_eqv (fine_iff.mp (dart_fine (hs x hx))).1 (fine_iff.mp fa).1]
    exact ⟨sD_inj, fun z => by rw [z]⟩
theorem idx_get {α : Type} [DecidableEq α] {l : List α} {a : α} (h : a ∈ l) : l[l.idxOf a]? = some a := by
  have := List.idxOf_lt_length_iff.mpr h
  rw [List.getElem?_eq_getElem this, List.getElem_idxOf]
/-- the place of a name, of a way at it -/
def plc (W : Web) (a : Str) : Nat := (W.map (·.1)).idxOf a
theorem plc_get {W : Web} (hW : GoodW W) {a : Str} {r : List Str} (h : (a, r) ∈ W) : W[plc W a]? = some (a, r) := by
  have hm : a ∈ W.map (·.1) := List.mem_map.mpr ⟨_, h, rfl⟩
  have h1 := idx_get hm
  rw [List.getElem?_map] at h1
  obtain ⟨⟨n, r'⟩, h2, h3⟩ := Option.map_eq_some_iff.mp h1
  have h3 : n = a := h3
  subst h3
  have : r' = r := hW.uniq (List.mem_of_getElem? h2) h
  rw [← this]
  exact h2
theorem corner_place_ok {W : Web} (hW : GoodW W) (od : Dart) {a b : Str} {r : List Str} (h : (a, r) ∈ W) (hb : b ∈ r) : DF m_corner_place [webD W od, .str a, .str b] (.tuple [.int (plc W a : Nat), .int (r.idxOf b : Nat)]) := by
  refine DF.of ?_
  show WS b_corner_place [.dat (webD W od), .dat (.str a), .dat (.str b)] _
  have hm : a ∈ W.map (·.1) := List.mem_map.mpr ⟨_, h, rfl⟩
  refine WS_ret (E_fz (E_tup (E_cons (E_fz (E_idx (E_fz (E_callD [webD W od] rfl (names_of_ok hW od) ⟨_, rfl, _, rfl, .keep (a := .d (.str a)) rfl ⟨_, _, _, rfl, rfl, rfl, idx_tupE hm, ⟨_, rfl, ?_⟩⟩⟩)))))))
  refine E_cons (E_fz (E_idx (E_fz (E_dget (E_fz (E_callD [webD W od] rfl (turn_table_ok hW od) ⟨_, rfl, .keep (a := .d (.str a)) rfl ⟨_, _, vW r, rfl, rfl, by rw [ks_getD, lookA_of hW.nd h]; rfl, ⟨.d (vW r), rfl, _, rfl, .keep (a := .d (.str b)) rfl ⟨_, _, _, rfl, rfl, rfl, idx_tupE hb, ⟨_, rfl, E_nil ⟨_, rfl, ⟨_, rfl, _, rfl, _, rfl, rfl⟩⟩⟩⟩⟩⟩⟩)))))) 
end K28
/-! k28 in plain Lean: link_of, link_place, turned_bounds, dart_or_raise, put_at -/
namespace K28
open PySem hiding Env
open PySem.W PyProof.Rows L2 HD G
theorem ltS_asymm {a b : Str} (h : ltS a b = true) : ltS b a = false := by
  unfold ltS at *
  exact decide_eq_false (List.lt_asymm (of_decide_eq_true h))
theorem ltS_total {a b : Str} (h : a ≠ b) : ltS a b = true ∨ ltS b a = true := by
  unfold ltS
  by_cases h1 : a.cps.toList < b.cps.toList
  · exact .inl (decide_eq_true h1)
  · by_cases h2 : b.cps.toList < a.cps.toList
    · exact .inr (decide_eq_true h2)
    · exfalso
      have := List.le_antisymm (List.not_lt.mp h2) (List.not_lt.mp h1)
      apply h
      cases a
      cases b
      simp at this
      rw [this]
/-- the link of a dart -/
def lnk (a b : Str) : Dart := if ltS a b = true then (a, b) else (b, a)
theorem min_str {a b : Str} (ha : PyData.strOk a = true) (hb : PyData.strOk b = true) : bestD minD [.str a, .str b] = some (.d (.str (if ltS b a = true then b else a))) := by
  have hok : okList [.str a, .str b] := okList_strs (r := [a, b]) (by
    intro x hx
    simp only [List.mem_cons, List.not_mem_nil, or_false] at hx
    rcases hx with rfl | rfl
    · exact ha
    · exact hb)
  show (if okSort [.str a, .str b] && [PyData.str a, .str b].all notNone && flatD (.str a) && flatD (.str b) then some (Res.d (minD (.str a) [.str b])) else none) = _
  rw [hok.okSort]
  show some (Res.d (if dataLt (.str b) (.str a) = true then PyData.str b else .str a)) = _
  rw [dataLt_str]
  unfold ltS
  split <;> rfl
theorem max_str {a b : Str} (ha : PyData.strOk a = true) (hb : PyData.strOk b = true) : bestD maxD [.str a, .str b] = some (.d (.str (if ltS a b = true then b else a))) := by
  have hok : okList [.str a, .str b] := okList_strs (r := [a, b]) (by
    intro x hx
    simp only [List.mem_cons, List.not_mem_nil, or_false] at hx
    rcases hx with rfl | rfl
    · exact ha
    · exact hb)
  show (if okSort [.str a, .str b] && [PyData.str a, .str b].all notNone && flatD (.str a) && flatD (.str b) then some (Res.d (maxD (.str a) [.str b])) else none) = _
  rw [hok.okSort]
  show some (Res.d (if dataLt (.str a) (.str b) = true then PyData.str b else .str a)) = _
  rw [dataLt_str]
  unfold ltS
  split <;> rfl
theorem max_int (a b : Int) : bestD maxD [.int a, .int b] = some (.d (.int (max a b))) := by
  show some (Res.d (if dataLt (.int a) (.int b) = true then PyData.int b else .int a)) = _
  rw [dataLt_int]
  by_cases h : a < b
  · rw [if_pos (by simpa using h), Int.max_eq_right (Int.le_of_lt h)]
  · rw [if_neg (by simpa using h), Int.max_eq_left (Int.not_lt.mp h)]
theorem min_int (a b : Int) : bestD minD [.int a, .int b] = some (.d (.int (min a b))) := by
  show some (Res.d (if dataLt (.int b) (.int a) = true then PyData.int b else .int a)) = _
  rw [dataLt_int]
  by_cases h : b < a
  · rw [if_pos (by simpa using h), Int.min_eq_right (Int.le_of_lt h)]
  · rw [if_neg (by simpa using h), Int.min_eq_left (Int.not_lt.mp h)]
theorem lnk_pair {a b : Str} (h : a ≠ b) : (if ltS b a = true then b else a, if ltS a b = true then b else a) = lnk a b := by
  unfold lnk
  rcases ltS_total h with h1 | h1
  · rw [ltS_asymm h1, h1]
    rfl
  · rw [ltS_asymm h1, h1]
    rfl
theorem link_of_ok {a b : Str} (h : a ≠ b) (ha : PyData.strOk a = true) (hb : PyData.strOk b = true) : DF m_link_of [.str a, .str b] (sD (lnk a b)) := by
  refine DF.of ?_
  show WS b_link_of [.dat (.str a), .dat (.str b)] _
  refine WS_ret (E_fz (E_tup (E_cons (E_fz (E_mN (.keep (a := [.d (.str a), .d (.str b)]) rfl ⟨[.str a, .str b], _, rfl, min_str ha hb, ⟨_, rfl, ?_⟩⟩))))))
  refine E_cons (E_fz (E_mN (.keep (a := [.d (.str a), .d (.str b)]) rfl ⟨[.str a, .str b], _, rfl, max_str ha hb, ⟨_, rfl, E_nil ⟨_, rfl, ⟨_, rfl, _, rfl, [.dat (.str a), .dat (.str b)], ?_, rfl⟩⟩⟩⟩)))
  rw [← lnk_pair h]
  rfl
theorem lnk_mem {W : Web} (hW : GoodW W) {a b : Str} (h : (a, b) ∈ darts W) : a ≠ b ∧ lnk a b ∈ links W := by
  obtain ⟨r, h1, h2⟩ := mem_darts.mp h
  have ne : a ≠ b := fun z => (hW.row _ _ h1).2.2.2.1 (by rw [← z] at h2; exact h2)
  refine ⟨ne, (mem_links hW).mpr ?_⟩
  obtain ⟨r', h3, h4⟩ := hW.symm _ _ h1 _ h2
  have back : (b, a) ∈ darts W := mem_darts.mpr ⟨r', h3, h4⟩
  unfold lnk
  rcases ltS_total ne with h5 | h5
  · rw [if_pos h5]
    exact ⟨h, h5⟩
  · rw [if_neg (by rw [ltS_asymm h5]; decide)]
    exact ⟨back, h5⟩
/-- the place of a dart's link -/
def lplc (W : Web) (a b : Str) : Nat := (links W).idxOf (lnk a b)
theorem links_ok {W : Web} (hW : GoodW W) : ∀ x ∈ links W, PyData.strOk x.1 = true ∧ PyData.strOk x.2 = true := fun x hx => hW.dart_ok ((mem_links hW).mp hx).1
theorem link_place_ok {W : Web} (hW : GoodW W) (od : Dart) {a b : Str} (h : (a, b) ∈ darts W) : DF m_link_place [webD W od, .str a, .str b] (.int (lplc W a b : Nat)) := by
  obtain ⟨ne, hm⟩ := lnk_mem hW h
  obtain ⟨sa, sb⟩ := hW.dart_ok h
  refine DF.of ?_
  show WS b_link_place [.dat (webD W od), .dat (.str a), .dat (.str b)] _
  exact WS_ret (E_fz (E_idx (E_fz (E_callD [webD W od] rfl (link_list_ok hW od) ⟨_, rfl, _, rfl, E_fz (E_callD [.str a, .str b] rfl (link_of_ok ne sa sb) ⟨_, rfl, _, _, _, rfl, rfl, rfl, idx_dartE hm (links_ok hW), ⟨_, rfl, _, rfl, _, rfl, rfl⟩⟩)⟩))))
theorem turned_bounds_ok (lo hi : Int) (a b : Str) : DF m_turned_bounds [.int lo, .int hi, .str a, .str b] (if ltS a b = true then .tuple [.int lo, .int hi] else .tuple [.int (-hi), .int (-lo)]) := by
  refine DF.of ?_
  show WS b_turned_bounds [.dat (.int lo), .dat (.int hi), .dat (.str a), .dat (.str b)] _
  refine WS_ret (E_fz (E_ifE (E_tst (E_m2 (.keep (a := .d (.str a)) rfl (.keep (a := .d (.str b)) rfl ⟨_, _, _, rfl, rfl, lt_str a b, _, rfl, ?_⟩))))))
  by_cases hl : ltS a b = true
  · rw [if_pos hl, if_pos hl]
    exact .keep (a := .d (.tuple [.int lo, .int hi])) rfl ⟨_, rfl, _, rfl, _, rfl, rfl⟩
  · rw [if_neg hl, if_neg hl]
    exact .keep (a := .d (.tuple [.int (-hi), .int (-lo)])) rfl ⟨_, rfl, _, rfl, _, rfl, rfl⟩
theorem neighbours_ok {W : Web} (hW : GoodW W) (od : Dart) {a b : Str} (h : (a, b) ∈ darts W) : DF m_are_neighbours [webD W od, .str a, .str b] (.bool true) := by
  obtain ⟨r, h1, h2⟩ := mem_darts.mp h
  have hin : inS false (.str b) (vW r) = some (.d (.bool true)) := by
    show (if flatD (.str b) && (txL r).all flatD then some (Res.d (.bool ((txL r).any fun y => eqV (toV y) (toV (.str b))))) else none) = _
    have hf : (txL r).all flatD = true := by
      rw [List.all_eq_true]
      intro x hx
      obtain ⟨y, _, rfl⟩ := List.mem_map.mp hx
      rfl
    have ha : ((txL r).any fun y => eqV (toV y) (toV (.str b))) = true := by
      rw [List.any_eq_true]
      exact ⟨.str b, List.mem_map.mpr ⟨b, h2, rfl⟩, by simp [toV, eqV]⟩
    rw [hf, ha]
    rfl
  refine DF.of ?_
  show WS b_are_neighbours [.dat (webD W od), .dat (.str a), .dat (.str b)] _
  have hget : mDGetX (mCall m_turn_table [mVar 0]) (mVar 1) (mTup []) [.dat (webD W od), .dat (.str a), .dat (.str b)] = some (.d (vW r), [.dat (webD W od), .dat (.str a), .dat (.str b)]) := by
    obtain ⟨v, ρ', e1, e2⟩ := E_callD (mf := m_turn_table) (ms := [mVar 0]) (ρ := [.dat (webD W od), .dat (.str a), .dat (.str b)]) [webD W od] (Q := fun v ρ' => v = .d (tblW W) ∧ ρ' = [.dat (webD W od), .dat (.str a), .dat (.str b)]) rfl (turn_table_ok hW od) ⟨rfl, rfl⟩
    obtain ⟨rfl, rfl⟩ := e2
    unfold mDGetX fz
    rw [e1]
    show ((hasD ((tab kS vW W).map fun e => (kD e.1, e.2)) (.str a)).map fun _ => (Val.d ((lookD ((tab kS vW W).map fun e => (kD e.1, e.2)) (.str a)).getD (.tuple [])), _)) = _
    rw [ks_hasD, ks_look, lookA_of hW.nd h1]
    rfl
  exact WS_ret (E_fz (E_m2 (.keep (a := .d (.str b)) rfl (E_fz (.keep hget ⟨_, rfl, _, _, _, rfl, rfl, hin, ⟨_, rfl, _, rfl, _, rfl, rfl⟩⟩)))))
theorem dart_or_raise_ok {W : Web} (hW : GoodW W) (od : Dart) {a b : Str} (h : (a, b) ∈ darts W) : DF m_dart_or_raise [webD W od, .str a, .str b] .none := by
  have key : ∃ f r, m_dart_or_raise [.dat (webD W od), .dat (.str a), .dat (.str b)] = some (f, r) ∧ f = .dt .none ∧ r = [.dat (webD W od), .dat (.str a), .dat (.str b)] := by
    refine fn_of ?_
    show WS b_dart_or_raise [.dat (webD W od), .dat (.str a), .dat (.str b)] _
    refine WS_if (E_not (E_tst (E_callD [webD W od, .str a, .str b] rfl (neighbours_ok hW od h) ⟨true, rfl, ?_⟩)))
    rw [if_neg (by decide)]
    exact ⟨_, rfl, _, rfl, rfl, rfl⟩
  obtain ⟨f, r, h, rfl, rfl⟩ := key
  exact h
end K28
/-! k28 in plain Lean: rules as data, put_at, corner_rule, swing_rule -/
namespace K28
open PySem hiding Env
open PySem.W PyProof.Rows L2 HD G
theorem cutp_hi {l : List PyData} {n : Nat} (h : n ≤ l.length) : G.cutD l none (some (n : Int)) = l.take n := by
  have := cut_hi (f := id) h
  rwa [List.map_id, List.map_id] at this
theorem cutp_lo {l : List PyData} {n : Nat} (h : n ≤ l.length) : G.cutD l (some (n : Int)) none = l.drop n := by
  have := cut_lo (f := id) h
  rwa [List.map_id, List.map_id] at this
theorem add_tup {xs ys : List PyData} (h : xs.length + ys.length ≤ 2000) : addD (.tuple xs) (.tuple ys) = some (.d (.tuple (xs ++ ys))) := if_pos (Nat.lt_of_le_of_lt h (by decide))
theorem put_at_ok {ds : List PyData} {i : Nat} {d : PyData} (hi : i < ds.length) (hl : ds.length ≤ 1000) : DF m_put_at [.tuple ds, .int (i : Int), d] (.tuple (ds.set i d)) := by
  refine DF.of ?_
  show WS b_put_at [.dat (.tuple ds), .dat (.int (i : Int)), .dat d] _
  have c1 := cutp_hi (l := ds) (n := i) (Nat.le_of_lt hi)
  have c2 := cutp_lo (l := ds) (n := i + 1) hi
  have e : ds.set i d = ds.take i ++ [d] ++ ds.drop (i + 1) := by
    rw [List.set_eq_take_append_cons_drop, if_pos hi, List.append_assoc]
    rfl
  refine WS_ret (E_fz (E_m2 (E_fz (E_m2 (E_fz (E_sl (a := .d (.tuple ds)) (l := none) (u := some (i : Int)) rfl rfl rfl rfl rfl ⟨.d (.tuple (ds.take i)), by rw [← c1]; rfl, .keep (a := .d (.tuple [d])) rfl ⟨_, _, _, rfl, rfl, add_tup (by rw [List.length_take]; simp; omega), ⟨_, rfl, ?_⟩⟩⟩))))))
  refine E_fz (E_sl (a := .d (.tuple ds)) (l := some ((i + 1 : Nat) : Int)) (u := none) rfl rfl rfl rfl rfl ⟨.d (.tuple (ds.drop (i + 1))), by rw [← c2]; rfl, _, _, _, rfl, rfl, add_tup (by rw [List.length_append, List.length_take, List.length_drop]; simp; omega), ⟨_, rfl, _, rfl, [.dat (.tuple ds), .dat (.int (i : Int)), .dat d], ?_, rfl⟩⟩)
  rw [e]
abbrev Bd := Int × Int
def bD (p : Bd) : PyData := .tuple [.int p.1, .int p.2]
def rwD (row : List Bd) : PyData := .tuple (row.map bD)
def tD (t : Int × Int × Int) : PyData := .tuple [.int t.1, .int t.2.1, .int t.2.2]
def rulD (C : List (List Bd)) (L : List (Int × Int × Int)) : PyData := .tuple [.tuple (C.map rwD), .tuple (L.map tD)]
/-- rules in order for a map -/
structure GoodR (W : Web) (C : List (List Bd)) (L : List (Int × Int × Int)) : Prop where
  cl : C.length = W.length
  cr : ∀ (i : Nat) (a : Str) (r : List Str), W[i]? = some (a, r) → ∃ row, C[i]? = some row ∧ row.length = r.length
  cb : ∀ row ∈ C, ∀ p ∈ row, -30 ≤ p.1 ∧ p.2 ≤ 30
  ll : L.length = (links W).length
  lb : ∀ t ∈ L, -30 ≤ t.1 ∧ t.2.1 ≤ 30
/-- the range of a corner, of a link -/
theorem GoodR.corner {W : Web} (hW : GoodW W) {C : List (List Bd)} {L : List (Int × Int × Int)} (h : GoodR W C L) {a b : Str} {r : List Str} (h1 : (a, r) ∈ W) (h2 : b ∈ r) : ∃ row p, C[plc W a]? = some row ∧ row[r.idxOf b]? = some p ∧ row ∈ C ∧ p ∈ row ∧ row.length = r.length := by
  obtain ⟨row, e1, e2⟩ := h.cr _ _ _ (plc_get hW h1)
  have hk : r.idxOf b < row.length := by
    rw [e2]
    exact List.idxOf_lt_length_iff.mpr h2
  exact ⟨row, row[r.idxOf b], e1, List.getElem?_eq_getElem hk, List.mem_of_getElem? e1, List.getElem_mem hk, e2⟩
theorem GoodR.link {W : Web} (hW : GoodW W) {C : List (List Bd)} {L : List (Int × Int × Int)} (h : GoodR W C L) {a b : Str} (hd : (a, b) ∈ darts W) : ∃ t, L[lplc W a b]? = some t ∧ t ∈ L ∧ lplc W a b < L.length := by
  have hk : lplc W a b < L.length := by
    rw [h.ll]
    exact List.idxOf_lt_length_iff.mpr (lnk_mem hW hd).2
  exact ⟨L[lplc W a b], List.getElem?_eq_getElem hk, List.getElem_mem hk, hk⟩
theorem get_map {α : Type} {f : α → PyData} {l : List α} {n : Nat} {x : α} (h : l[n]? = some x) : ixD (.tuple (l.map f)) (.int (n : Int)) = some (.d (f x)) := ixD_tup (by rw [List.getElem?_map, h]; rfl)
theorem corner_rule_ok {W : Web} (hW : GoodW W) (od : Dart) {C : List (List Bd)} {L : List (Int × Int × Int)} {a b : Str} {r : List Str} (h1 : (a, r) ∈ W) (h2 : b ∈ r) {row : List Bd} {p : Bd} (e1 : C[plc W a]? = some row) (e2 : row[r.idxOf b]? = some p) : DF m_corner_rule [webD W od, rulD C L, .str a, .str b] (bD p) := by
  refine DF.of ?_
  show WS b_corner_rule [.dat (webD W od), .dat (rulD C L), .dat (.str a), .dat (.str b), .non, .non] _
  refine WS_seq (WS_exp (E_callD [webD W od, .str a, .str b] rfl (dart_or_raise_ok hW od (mem_darts.mpr ⟨r, h1, h2⟩)) ?_))
  refine WS_seq (WS_asg (E_fz (E_callD [webD W od, .str a, .str b] rfl (corner_place_ok hW od h1 h2) ⟨_, rfl, _, _, rfl, rfl, ?_⟩)))
  show WS _ [.dat (webD W od), .dat (rulD C L), .dat (.str a), .dat (.str b), .dat (.int (plc W a : Nat)), .dat (.int (r.idxOf b : Nat))] _
  refine WS_ret (E_fz (E_m2 (E_fz (E_m2 (.keep (a := .d (.tuple (C.map rwD))) rfl (.keep (a := .d (.int (plc W a : Nat))) rfl ⟨_, _, _, rfl, rfl, get_map e1, ⟨_, rfl, ?_⟩⟩))))))
  exact .keep (a := .d (.int (r.idxOf b : Nat))) rfl ⟨_, _, _, rfl, rfl, get_map (f := bD) e2, ⟨_, rfl, _, rfl, _, rfl, rfl⟩⟩
/-- a link's range as the dart sees it -/
def seen (a b : Str) (t : Int × Int × Int) : Bd := if ltS a b = true then (t.1, t.2.1) else (-t.2.1, -t.1)
theorem seen_D (a b : Str) (t : Int × Int × Int) : (if ltS a b = true then PyData.tuple [.int t.1, .int t.2.1] else .tuple [.int (-t.2.1), .int (-t.1)]) = bD (seen a b t) := by
  unfold seen
  split <;> rfl
theorem swing_rule_ok {W : Web} (hW : GoodW W) (od : Dart) {C : List (List Bd)} {L : List (Int × Int × Int)} {a b : Str} (hd : (a, b) ∈ darts W) {t : Int × Int × Int} (e1 : L[lplc W a b]? = some t) : DF m_swing_rule [webD W od, rulD C L, .str a, .str b] (bD (seen a b t)) := by
  refine DF.of ?_
  show WS b_swing_rule [.dat (webD W od), .dat (rulD C L), .dat (.str a), .dat (.str b), .non, .non, .non] _
  refine WS_seq (WS_exp (E_callD [webD W od, .str a, .str b] rfl (dart_or_raise_ok hW od hd) ?_))
  refine WS_seq (WS_asg (E_fz (E_m2 (.keep (a := .d (.tuple (L.map tD))) rfl (E_fz (E_callD [webD W od, .str a, .str b] rfl (link_place_ok hW od hd) ⟨_, rfl, _, _, _, rfl, rfl, get_map e1, ⟨_, rfl, _, _, rfl, rfl, ?_⟩⟩))))))
  show WS _ [.dat (webD W od), .dat (rulD C L), .dat (.str a), .dat (.str b), .dat (.int t.1), .dat (.int t.2.1), .dat (.int t.2.2)] _
  refine WS_ret (E_fz (E_callD [.int t.1, .int t.2.1, .str a, .str b] rfl (turned_bounds_ok t.1 t.2.1 a b) ⟨_, rfl, _, rfl, [.dat (webD W od), .dat (rulD C L), .dat (.str a), .dat (.str b), .dat (.int t.1), .dat (.int t.2.1), .dat (.int t.2.2)], ?_, rfl⟩))
  rw [seen_D]
end K28
/-! k28 in plain Lean: corner_put, swing_put, rule_of -/
namespace K28
open PySem hiding Env
open PySem.W PyProof.Rows L2 HD G
theorem mArgs_cons {m : Mi Val} {ms : List (Mi Val)} {ρ : G.Env} {a : AV} {as : List AV} (h : fz m ρ = some (a, ρ)) (k : mArgs ms ρ = some (as, ρ)) : mArgs (m :: ms) ρ = some (a :: as, ρ) := by
  unfold mArgs
  rw [h]
  show ((mArgs ms ρ).bind fun r => some (a :: r.1, r.2)) = _
  rw [k]
  rfl
theorem corner_put_ok {W : Web} (hW : GoodW W) (od : Dart) {C : List (List Bd)} {L : List (Int × Int × Int)} (hR : GoodR W C L) {a b : Str} {r : List Str} (h1 : (a, r) ∈ W) (h2 : b ∈ r) {row : List Bd} {p0 : Bd} (e1 : C[plc W a]? = some row) (e2 : row[r.idxOf b]? = some p0) (e3 : row.length = r.length) (p : Bd) :
    DF m_corner_put [webD W od, rulD C L, .str a, .str b, bD p] (rulD (C.set (plc W a) (row.set (r.idxOf b) p)) L) := by
  refine DF.of ?_
  show WS b_corner_put [.dat (webD W od), .dat (rulD C L), .dat (.str a), .dat (.str b), .dat (bD p), .non, .non] _
  refine WS_seq (WS_asg (E_fz (E_callD [webD W od, .str a, .str b] rfl (corner_place_ok hW od h1 h2) ⟨_, rfl, _, _, rfl, rfl, ?_⟩)))
  show WS _ [.dat (webD W od), .dat (rulD C L), .dat (.str a), .dat (.str b), .dat (bD p), .dat (.int (plc W a : Nat)), .dat (.int (r.idxOf b : Nat))] _
  have hk := (List.getElem?_eq_some_iff.mp e2).1
  have hi := (List.getElem?_eq_some_iff.mp e1).1
  have hr4 := (hW.row _ _ h1).2.2.1
  have hC : C.length ≤ 40 := by rw [hR.cl]; exact hW.le
  have f1 : DF m_put_at [.tuple (row.map bD), .int (r.idxOf b : Nat), bD p] (.tuple ((row.map bD).set (r.idxOf b) (bD p))) := put_at_ok (by rw [List.length_map]; exact hk) (by rw [List.length_map]; omega)
  have m1 : PyData.tuple ((row.map bD).set (r.idxOf b) (bD p)) = rwD (row.set (r.idxOf b) p) := by
    unfold rwD
    rw [List.map_set]
  rw [m1] at f1
  have f2 : DF m_put_at [.tuple (C.map rwD), .int (plc W a : Nat), rwD (row.set (r.idxOf b) p)] (.tuple ((C.map rwD).set (plc W a) (rwD (row.set (r.idxOf b) p)))) := put_at_ok (by rw [List.length_map]; exact hi) (by rw [List.length_map]; omega)
  have hrow : m2 ixD (m2 ixD (mVar 1) (mC (.int 0))) (mVar 5) [.dat (webD W od), .dat (rulD C L), .dat (.str a), .dat (.str b), .dat (bD p), .dat (.int (plc W a : Nat)), .dat (.int (r.idxOf b : Nat))] = some (.d (rwD row), [.dat (webD W od), .dat (rulD C L), .dat (.str a), .dat (.str b), .dat (bD p), .dat (.int (plc W a : Nat)), .dat (.int (r.idxOf b : Nat))]) := by
    show ((ixD (.tuple (C.map rwD)) (.int (plc W a : Nat))).map fun o => (o.val, _)) = _
    rw [get_map e1]
    rfl
  obtain ⟨v, ρ', g1, g2⟩ := E_callD (mf := m_put_at) (ms := [m2 ixD (m2 ixD (mVar 1) (mC (.int 0))) (mVar 5), mVar 6, mVar 4]) (ρ := [.dat (webD W od), .dat (rulD C L), .dat (.str a), .dat (.str b), .dat (bD p), .dat (.int (plc W a : Nat)), .dat (.int (r.idxOf b : Nat))]) [rwD row, .int (r.idxOf b : Nat), bD p]
    (Q := fun v ρ' => v = .d (rwD (row.set (r.idxOf b) p)) ∧ ρ' = [.dat (webD W od), .dat (rulD C L), .dat (.str a), .dat (.str b), .dat (bD p), .dat (.int (plc W a : Nat)), .dat (.int (r.idxOf b : Nat))]) (by
      unfold mArgs fz
      rw [hrow]
      rfl) f1 ⟨rfl, rfl⟩
  obtain ⟨rfl, rfl⟩ := g2
  refine WS_ret (E_fz (E_tup (E_cons (E_fz (E_callD [.tuple (C.map rwD), .int (plc W a : Nat), rwD (row.set (r.idxOf b) p)] ?_ f2 ⟨_, rfl, ?_⟩)))))
  · exact mArgs_cons rfl (mArgs_cons rfl (mArgs_one (a := .d (rwD (row.set (r.idxOf b) p))) (by unfold fz; rw [g1]; rfl)))
  · refine E_cons (.keep (a := .d (.tuple (L.map tD))) rfl (E_nil ⟨_, rfl, _, rfl, _, rfl, [.dat (webD W od), .dat (rulD C L), .dat (.str a), .dat (.str b), .dat (bD p), .dat (.int (plc W a : Nat)), .dat (.int (r.idxOf b : Nat))], ?_, rfl⟩))
    unfold rulD
    rw [List.map_set]
end K28
/-! k28 in plain Lean: swing_put, rule_of -/
namespace K28
open PySem hiding Env
open PySem.W PyProof.Rows L2 HD G
/-- a link's rule with another range, as the dart says it -/
def newT (a b : Str) (lo hi : Int) (t : Int × Int × Int) : Int × Int × Int := if ltS a b = true then (lo, hi, t.2.2) else (-hi, -lo, t.2.2)
theorem swing_put_ok {W : Web} (hW : GoodW W) (od : Dart) {C : List (List Bd)} {L : List (Int × Int × Int)} (hR : GoodR W C L) {a b : Str} (hd : (a, b) ∈ darts W) {t : Int × Int × Int} (e1 : L[lplc W a b]? = some t) (lo hi : Int) :
    DF m_swing_put [webD W od, rulD C L, .str a, .str b, .int lo, .int hi] (rulD C (L.set (lplc W a b) (newT a b lo hi t))) := by
  refine DF.of ?_
  show WS b_swing_put [.dat (webD W od), .dat (rulD C L), .dat (.str a), .dat (.str b), .dat (.int lo), .dat (.int hi), .non, .non] _
  refine WS_seq (WS_set (E_fz (E_callD [webD W od, .str a, .str b] rfl (link_place_ok hW od hd) ⟨_, rfl, _, rfl, ?_⟩)))
  show WS _ [.dat (webD W od), .dat (rulD C L), .dat (.str a), .dat (.str b), .dat (.int lo), .dat (.int hi), .dat (.int (lplc W a b : Nat)), .non] _
  have hi' := (List.getElem?_eq_some_iff.mp e1).1
  have hL : L.length ≤ 160 := by rw [hR.ll]; exact hW.llen
  have ht2 : m2 ixD (m2 ixD (m2 ixD (mVar 1) (mC (.int 1))) (mVar 6)) (mC (.int 2)) [.dat (webD W od), .dat (rulD C L), .dat (.str a), .dat (.str b), .dat (.int lo), .dat (.int hi), .dat (.int (lplc W a b : Nat)), .non] = some (.d (.int t.2.2), [.dat (webD W od), .dat (rulD C L), .dat (.str a), .dat (.str b), .dat (.int lo), .dat (.int hi), .dat (.int (lplc W a b : Nat)), .non]) := by
    obtain ⟨v, ρ', g1, g2⟩ := E_m2 (f := ixD) (ma := m2 ixD (m2 ixD (mVar 1) (mC (.int 1))) (mVar 6)) (mb := mC (.int 2)) (ρ := [.dat (webD W od), .dat (rulD C L), .dat (.str a), .dat (.str b), .dat (.int lo), .dat (.int hi), .dat (.int (lplc W a b : Nat)), .non])
      (Q := fun v ρ' => v = .d (.int t.2.2) ∧ ρ' = [.dat (webD W od), .dat (rulD C L), .dat (.str a), .dat (.str b), .dat (.int lo), .dat (.int hi), .dat (.int (lplc W a b : Nat)), .non])
      (E_fz (E_m2 (.keep (a := .d (.tuple (L.map tD))) rfl (.keep (a := .d (.int (lplc W a b : Nat))) rfl ⟨_, _, _, rfl, rfl, get_map e1, ⟨_, rfl, .keep (a := .d (.int 2)) rfl ⟨_, _, .d (.int t.2.2), rfl, rfl, rfl, rfl, rfl⟩⟩⟩))))
    obtain ⟨rfl, rfl⟩ := g2
    exact g1
  have hnew : ∀ x : PyData, x = (if ltS a b = true then .tuple [.int lo, .int hi] else .tuple [.int (-hi), .int (-lo)]) → addD x (.tuple [.int t.2.2]) = some (.d (tD (newT a b lo hi t))) := fun x hx => by
    rw [hx]
    unfold newT
    split
    · exact add_tup (by show 3 ≤ 2000; decide)
    · exact add_tup (by show 3 ≤ 2000; decide)
  refine WS_seq (WS_set (E_fz (E_m2 (E_fz (E_callD [.int lo, .int hi, .str a, .str b] rfl (turned_bounds_ok lo hi a b) ⟨_, rfl, E_fz (E_tup (E_cons (E_fz (.keep ht2 ⟨_, rfl, E_nil ⟨_, rfl, ⟨_, rfl, _, _, _, rfl, rfl, hnew _ rfl, ⟨_, rfl, _, rfl, ?_⟩⟩⟩⟩))))⟩)))))
  show WS _ [.dat (webD W od), .dat (rulD C L), .dat (.str a), .dat (.str b), .dat (.int lo), .dat (.int hi), .dat (.int (lplc W a b : Nat)), .dat (tD (newT a b lo hi t))] _
  have f2 : DF m_put_at [.tuple (L.map tD), .int (lplc W a b : Nat), tD (newT a b lo hi t)] (.tuple ((L.map tD).set (lplc W a b) (tD (newT a b lo hi t)))) := put_at_ok (by rw [List.length_map]; exact hi') (by rw [List.length_map]; omega)
  refine WS_ret (E_fz (E_tup (E_cons (.keep (a := .d (.tuple (C.map rwD))) rfl ?_))))
  refine E_cons (E_fz (E_callD [.tuple (L.map tD), .int (lplc W a b : Nat), tD (newT a b lo hi t)] rfl f2 ⟨_, rfl, E_nil ⟨_, rfl, _, rfl, _, rfl, [.dat (webD W od), .dat (rulD C L), .dat (.str a), .dat (.str b), .dat (.int lo), .dat (.int hi), .dat (.int (lplc W a b : Nat)), .dat (tD (newT a b lo hi t))], ?_, rfl⟩⟩))
  unfold rulD
  rw [List.map_set]
end K28
/-! k28 in plain Lean: rule_of, narrowed -/
namespace K28
open PySem hiding Env
open PySem.W PyProof.Rows L2 HD G
def clD (kind : Str) (a b : Str) (x y : Int) : PyData := .tuple [.str kind, .str a, .str b, .int x, .int y]
theorem kc : eqD false (.str "corner") (.str "corner") = some (.d (.bool true)) := by
  show some (Res.d (.bool (decide (V.str "corner" = V.str "corner")))) = _
  rw [decide_eq_true rfl]
theorem ks : eqD false (.str "swing") (.str "corner") = some (.d (.bool false)) := by
  show some (Res.d (.bool (decide (V.str "swing" = V.str "corner")))) = _
  rw [decide_eq_false fun h => by injection h with h; exact absurd h (by decide +kernel)]
theorem rule_of_c {W : Web} (hW : GoodW W) (od : Dart) {C : List (List Bd)} {L : List (Int × Int × Int)} {a b : Str} {r : List Str} (h1 : (a, r) ∈ W) (h2 : b ∈ r) {row : List Bd} {p : Bd} (e1 : C[plc W a]? = some row) (e2 : row[r.idxOf b]? = some p) (x y : Int) : DF m_rule_of [webD W od, rulD C L, clD "corner" a b x y] (bD p) := by
  refine DF.of ?_
  show WS b_rule_of [.dat (webD W od), .dat (rulD C L), .dat (clD "corner" a b x y), .non, .non, .non, .non] _
  refine WS_seq (WS_asg (.keep (a := .d (clD "corner" a b x y)) rfl ⟨_, _, rfl, rfl, ?_⟩))
  show WS _ [.dat (webD W od), .dat (rulD C L), .dat (clD "corner" a b x y), .dat (.str "corner"), .dat (.str a), .dat (.str b), .dat (.int y)] _
  refine WS_ret (E_fz (E_ifE (E_tst (E_m2 (.keep (a := .d (.str "corner")) rfl (.keep (a := .d (.str "corner")) rfl ⟨_, _, _, rfl, rfl, kc, true, rfl, ?_⟩))))))
  rw [if_pos rfl]
  exact E_callD [webD W od, rulD C L, .str a, .str b] rfl (corner_rule_ok hW od h1 h2 e1 e2) ⟨_, rfl, _, rfl, _, rfl, rfl⟩
theorem rule_of_s {W : Web} (hW : GoodW W) (od : Dart) {C : List (List Bd)} {L : List (Int × Int × Int)} {a b : Str} (hd : (a, b) ∈ darts W) {t : Int × Int × Int} (e1 : L[lplc W a b]? = some t) (x y : Int) : DF m_rule_of [webD W od, rulD C L, clD "swing" a b x y] (bD (seen a b t)) := by
  refine DF.of ?_
  show WS b_rule_of [.dat (webD W od), .dat (rulD C L), .dat (clD "swing" a b x y), .non, .non, .non, .non] _
  refine WS_seq (WS_asg (.keep (a := .d (clD "swing" a b x y)) rfl ⟨_, _, rfl, rfl, ?_⟩))
  show WS _ [.dat (webD W od), .dat (rulD C L), .dat (clD "swing" a b x y), .dat (.str "swing"), .dat (.str a), .dat (.str b), .dat (.int y)] _
  refine WS_ret (E_fz (E_ifE (E_tst (E_m2 (.keep (a := .d (.str "swing")) rfl (.keep (a := .d (.str "corner")) rfl ⟨_, _, _, rfl, rfl, ks, false, rfl, ?_⟩))))))
  rw [if_neg (by decide)]
  exact E_callD [webD W od, rulD C L, .str a, .str b] rfl (swing_rule_ok hW od hd e1) ⟨_, rfl, _, rfl, _, rfl, rfl⟩
end K28
/-! k28 in plain Lean: narrowed -/
namespace K28
open PySem hiding Env
open PySem.W PyProof.Rows L2 HD G
/-- the rules that a corner claim leaves -/
def cNar (C : List (List Bd)) (L : List (Int × Int × Int)) (i k : Nat) (row : List Bd) (lo hi : Int) : PyData := if hi < lo then .none else rulD (C.set i (row.set k (lo, hi))) L
def sNar (C : List (List Bd)) (L : List (Int × Int × Int)) (i : Nat) (a b : Str) (t : Int × Int × Int) (lo hi : Int) : PyData := if hi < lo then .none else rulD C (L.set i (newT a b lo hi t))
theorem narrowed_c {W : Web} (hW : GoodW W) (od : Dart) {C : List (List Bd)} {L : List (Int × Int × Int)} (hR : GoodR W C L) {a b : Str} {r : List Str} (h1 : (a, r) ∈ W) (h2 : b ∈ r) {row : List Bd} {p : Bd} (e1 : C[plc W a]? = some row) (e2 : row[r.idxOf b]? = some p) (e3 : row.length = r.length) (x y lo hi : Int) :
    DF m_narrowed [webD W od, rulD C L, clD "corner" a b x y, .int lo, .int hi] (cNar C L (plc W a) (r.idxOf b) row (max lo p.1) (min hi p.2)) := by
  refine DF.of ?_
  show WS b_narrowed [.dat (webD W od), .dat (rulD C L), .dat (clD "corner" a b x y), .dat (.int lo), .dat (.int hi), .non, .non, .non, .non, .non, .non] _
  refine WS_seq (WS_asg (.keep (a := .d (clD "corner" a b x y)) rfl ⟨_, _, rfl, rfl, ?_⟩))
  show WS _ [.dat (webD W od), .dat (rulD C L), .dat (clD "corner" a b x y), .dat (.int lo), .dat (.int hi), .dat (.str "corner"), .dat (.str a), .dat (.str b), .dat (.int y), .non, .non] _
  refine WS_seq (WS_asg (E_fz (E_callD [webD W od, rulD C L, clD "corner" a b x y] rfl (rule_of_c hW od h1 h2 e1 e2 x y) ⟨_, rfl, _, _, rfl, rfl, ?_⟩)))
  show WS _ [.dat (webD W od), .dat (rulD C L), .dat (clD "corner" a b x y), .dat (.int lo), .dat (.int hi), .dat (.str "corner"), .dat (.str a), .dat (.str b), .dat (.int y), .dat (.int p.1), .dat (.int p.2)] _
  refine WS_seq (WS_par (E_cons (E_fz (E_mN (.keep (a := [.d (.int lo), .d (.int p.1)]) rfl ⟨[.int lo, .int p.1], _, rfl, max_int lo p.1, ⟨_, rfl, E_cons (E_fz (E_mN (.keep (a := [.d (.int hi), .d (.int p.2)]) rfl ⟨[.int hi, .int p.2], _, rfl, min_int hi p.2, ⟨_, rfl, E_nil ⟨_, _, rfl, ?_⟩⟩⟩)))⟩⟩)))))
  generalize max lo p.1 = lo'
  generalize min hi p.2 = hi'
  show WS _ [.dat (webD W od), .dat (rulD C L), .dat (clD "corner" a b x y), .dat (.int lo'), .dat (.int hi'), .dat (.str "corner"), .dat (.str a), .dat (.str b), .dat (.int y), .dat (.int p.1), .dat (.int p.2)] _
  refine WS_seq (WS_if (E_tst (E_m2 (.keep (a := .d (.int lo')) rfl (.keep (a := .d (.int hi')) rfl ⟨_, _, .d (.bool (decide (hi' < lo'))), rfl, rfl, rfl, _, rfl, ?_⟩)))))
  unfold cNar
  by_cases hlt : hi' < lo'
  · rw [if_pos (decide_eq_true hlt), if_pos hlt]
    exact WS_ret (.keep (a := .d .none) rfl ⟨_, rfl, _, rfl, rfl⟩)
  · rw [if_neg (by simpa using hlt), if_neg hlt]
    refine ⟨_, rfl, ?_⟩
    refine WS_seq (WS_if (E_tst (E_m2 (.keep (a := .d (.str "corner")) rfl (.keep (a := .d (.str "corner")) rfl ⟨_, _, _, rfl, rfl, kc, true, rfl, ?_⟩)))))
    rw [if_pos rfl]
    exact WS_ret (E_fz (E_callD [webD W od, rulD C L, .str a, .str b, bD (lo', hi')] rfl (corner_put_ok hW od hR h1 h2 e1 e2 e3 (lo', hi')) ⟨_, rfl, _, rfl, _, rfl, rfl⟩))
theorem narrowed_s {W : Web} (hW : GoodW W) (od : Dart) {C : List (List Bd)} {L : List (Int × Int × Int)} (hR : GoodR W C L) {a b : Str} (hd : (a, b) ∈ darts W) {t : Int × Int × Int} (e1 : L[lplc W a b]? = some t) (x y lo hi : Int) :
    DF m_narrowed [webD W od, rulD C L, clD "swing" a b x y, .int lo, .int hi] (sNar C L (lplc W a b) a b t (max lo (seen a b t).1) (min hi (seen a b t).2)) := by
  refine DF.of ?_
  show WS b_narrowed [.dat (webD W od), .dat (rulD C L), .dat (clD "swing" a b x y), .dat (.int lo), .dat (.int hi), .non, .non, .non, .non, .non, .non] _
  refine WS_seq (WS_asg (.keep (a := .d (clD "swing" a b x y)) rfl ⟨_, _, rfl, rfl, ?_⟩))
  show WS _ [.dat (webD W od), .dat (rulD C L), .dat (clD "swing" a b x y), .dat (.int lo), .dat (.int hi), .dat (.str "swing"), .dat (.str a), .dat (.str b), .dat (.int y), .non, .non] _
  have hr := rule_of_s hW od (C := C) hd e1 x y
  generalize seen a b t = p at hr ⊢
  refine WS_seq (WS_asg (E_fz (E_callD [webD W od, rulD C L, clD "swing" a b x y] rfl hr ⟨_, rfl, _, _, rfl, rfl, ?_⟩)))
  show WS _ [.dat (webD W od), .dat (rulD C L), .dat (clD "swing" a b x y), .dat (.int lo), .dat (.int hi), .dat (.str "swing"), .dat (.str a), .dat (.str b), .dat (.int y), .dat (.int p.1), .dat (.int p.2)] _
  refine WS_seq (WS_par (E_cons (E_fz (E_mN (.keep (a := [.d (.int lo), .d (.int p.1)]) rfl ⟨[.int lo, .int p.1], _, rfl, max_int lo p.1, ⟨_, rfl, E_cons (E_fz (E_mN (.keep (a := [.d (.int hi), .d (.int p.2)]) rfl ⟨[.int hi, .int p.2], _, rfl, min_int hi p.2, ⟨_, rfl, E_nil ⟨_, _, rfl, ?_⟩⟩⟩)))⟩⟩)))))
  generalize max lo p.1 = lo'
  generalize min hi p.2 = hi'
  show WS _ [.dat (webD W od), .dat (rulD C L), .dat (clD "swing" a b x y), .dat (.int lo'), .dat (.int hi'), .dat (.str "swing"), .dat (.str a), .dat (.str b), .dat (.int y), .dat (.int p.1), .dat (.int p.2)] _
  refine WS_seq (WS_if (E_tst (E_m2 (.keep (a := .d (.int lo')) rfl (.keep (a := .d (.int hi')) rfl ⟨_, _, .d (.bool (decide (hi' < lo'))), rfl, rfl, rfl, _, rfl, ?_⟩)))))
  unfold sNar
  by_cases hlt : hi' < lo'
  · rw [if_pos (decide_eq_true hlt), if_pos hlt]
    exact WS_ret (.keep (a := .d .none) rfl ⟨_, rfl, _, rfl, rfl⟩)
  · rw [if_neg (by simpa using hlt), if_neg hlt]
    refine ⟨_, rfl, ?_⟩
    refine WS_seq (WS_if (E_tst (E_m2 (.keep (a := .d (.str "swing")) rfl (.keep (a := .d (.str "corner")) rfl ⟨_, _, _, rfl, rfl, ks, false, rfl, ?_⟩)))))
    rw [if_neg (by decide)]
    exact ⟨_, rfl, WS_ret (E_fz (E_callD [webD W od, rulD C L, .str a, .str b, .int lo', .int hi'] rfl (swing_put_ok hW od hR hd e1 lo' hi') ⟨_, rfl, _, rfl, _, rfl, rfl⟩))⟩
end K28
/-! k28 in plain Lean: ask_list, cases_of, denial_cases -/
namespace K28
open PySem hiding Env
open PySem.W PyProof.Rows L2 HD G
def askD (w r : PyData) (m : Int) : PyData := .tuple [w, r, .int m]
def kept (w : PyData) (m : Int) (rows : List PyData) : List PyData := rows.filterMap fun r => if G.isNon r = true then none else some (askD w r m)
theorem ask_list_ok (w r0 : PyData) (m : Int) (rows : List PyData) (hl : rows.length ≤ 10) : DF m_ask_list [askD w r0 m, .list rows] (.list (kept w m rows)) := by
  refine DF.of ?_
  show WS b_ask_list [.dat (askD w r0 m), .dat (.list rows), .non] _
  refine WS_ret (E_fz (E_lc id (fun r => if G.isNon r = true then none else some (askD w r m)) (E_src (.keep (a := .d (.list rows)) rfl ⟨_, .inl rfl, rows, (List.map_id rows).symm, ?_, ?_, ?_, ⟨_, rfl, _, rfl, [.dat (askD w r0 m), .dat (.list rows), .non], rfl, rfl⟩⟩))))
  · intro r hr
    refine ⟨_, rfl, E_tst (.keep (a := .d (.bool (!G.isNon r))) rfl ⟨_, rfl, ?_⟩)⟩
    by_cases h : G.isNon r = true
    · rw [if_neg (by rw [h]; decide), if_pos h]
      exact ⟨rfl, rfl⟩
    · rw [if_pos (by simpa using h), if_neg h]
      exact .keep (a := .d (askD w r m)) rfl ⟨_, rfl, rfl, rfl⟩
  · exact Nat.lt_of_le_of_lt hl (by decide)
  · intro v hv
    rw [List.mem_singleton.mp hv]
    exact .inl rfl
/-- what narrowed says, for a claim on data -/
def NarOk (wd rd : PyData) (cl : PyData) (nar : Int → Int → PyData) : Prop := ∀ lo hi, DF m_narrowed [wd, rd, cl, .int lo, .int hi] (nar lo hi)
theorem claim_narrowed_ok {wd rd : PyData} {kind a b : Str} {x y : Int} {nar : Int → Int → PyData} (h : NarOk wd rd (clD kind a b x y) nar) : DF m_claim_narrowed [wd, rd, clD kind a b x y] (nar x y) := by
  refine DF.of ?_
  show WS b_claim_narrowed [.dat wd, .dat rd, .dat (clD kind a b x y)] _
  exact WS_ret (E_fz (E_callD [wd, rd, clD kind a b x y, .int x, .int y] rfl (h x y) ⟨_, rfl, _, rfl, _, rfl, rfl⟩))
theorem cases_of_ok {wd rd : PyData} {m : Int} {kind a b : Str} {x y : Int} {nar : Int → Int → PyData} (h : NarOk wd rd (clD kind a b x y) nar) : DF m_cases_of [askD wd rd m, clD kind a b x y] (.tuple (kept wd m [nar x y])) := by
  have hc : DF m_case_list [askD wd rd m, clD kind a b x y] (.list (kept wd m [nar x y])) := by
    refine DF.of ?_
    show WS b_case_list [.dat (askD wd rd m), .dat (clD kind a b x y)] _
    obtain ⟨v, ρ', g1, g2⟩ := E_callD (mf := m_claim_narrowed) (ms := [m2 ixD (mVar 0) (mC (.int 0)), m2 ixD (mVar 0) (mC (.int 1)), mVar 1]) (ρ := [.dat (askD wd rd m), .dat (clD kind a b x y)]) [wd, rd, clD kind a b x y]
      (Q := fun v ρ' => v = .d (nar x y) ∧ ρ' = [.dat (askD wd rd m), .dat (clD kind a b x y)]) rfl (claim_narrowed_ok h) ⟨rfl, rfl⟩
    obtain ⟨rfl, rfl⟩ := g2
    have hl : fz (mLst [mCall m_claim_narrowed [m2 ixD (mVar 0) (mC (.int 0)), m2 ixD (mVar 0) (mC (.int 1)), mVar 1]]) [.dat (askD wd rd m), .dat (clD kind a b x y)] = some (.d (.list [nar x y]), [.dat (askD wd rd m), .dat (clD kind a b x y)]) := by
      unfold fz mLst
      rw [mArgs_one (a := .d (nar x y)) (by unfold fz; rw [g1]; rfl)]
      rfl
    exact WS_ret (E_fz (E_callD [askD wd rd m, .list [nar x y]] (mArgs_cons rfl (mArgs_one hl)) (ask_list_ok wd rd m [nar x y] (by simp)) ⟨_, rfl, _, rfl, _, rfl, rfl⟩))
  refine DF.of ?_
  show WS b_cases_of [.dat (askD wd rd m), .dat (clD kind a b x y)] _
  exact WS_ret (E_fz (E_mN (E_cons (E_fz (E_callD [askD wd rd m, clD kind a b x y] rfl hc ⟨_, rfl, E_nil ⟨_, _, rfl, rfl, ⟨_, rfl, _, rfl, _, rfl, rfl⟩⟩⟩)))))
end K28
/-! k28 in plain Lean: denial_cases -/
namespace K28
open PySem hiding Env
open PySem.W PyProof.Rows L2 HD G
theorem denial_cases_ok {wd rd : PyData} {m : Int} {kind a b : Str} {x y : Int} {nar : Int → Int → PyData} (h : NarOk wd rd (clD kind a b x y) nar) : DF m_denial_cases [askD wd rd m, clD kind a b x y] (.tuple (kept wd m [nar (-30) (x - 1), nar (y + 1) 30])) := by
  have hc : DF m_denial_list [askD wd rd m, clD kind a b x y] (.list (kept wd m [nar (-30) (x - 1), nar (y + 1) 30])) := by
    refine DF.of ?_
    show WS b_denial_list [.dat (askD wd rd m), .dat (clD kind a b x y), .non] _
    refine WS_seq (WS_set (E_fz (E_callD [wd, rd, clD kind a b x y, .int (-30), .int (x - 1)] rfl (h (-30) (x - 1)) ⟨_, rfl, _, rfl, ?_⟩)))
    show WS _ [.dat (askD wd rd m), .dat (clD kind a b x y), .dat (nar (-30) (x - 1))] _
    obtain ⟨v, ρ', g1, g2⟩ := E_callD (mf := m_narrowed) (ms := [m2 ixD (mVar 0) (mC (.int 0)), m2 ixD (mVar 0) (mC (.int 1)), mVar 1, m2 addD (m2 ixD (mVar 1) (mC (.int 4))) (mC (.int 1)), mC (.int 30)]) (ρ := [.dat (askD wd rd m), .dat (clD kind a b x y), .dat (nar (-30) (x - 1))]) [wd, rd, clD kind a b x y, .int (y + 1), .int 30]
      (Q := fun v ρ' => v = .d (nar (y + 1) 30) ∧ ρ' = [.dat (askD wd rd m), .dat (clD kind a b x y), .dat (nar (-30) (x - 1))]) rfl (h (y + 1) 30) ⟨rfl, rfl⟩
    obtain ⟨rfl, rfl⟩ := g2
    have hl : fz (mLst [mVar 2, mCall m_narrowed [m2 ixD (mVar 0) (mC (.int 0)), m2 ixD (mVar 0) (mC (.int 1)), mVar 1, m2 addD (m2 ixD (mVar 1) (mC (.int 4))) (mC (.int 1)), mC (.int 30)]]) [.dat (askD wd rd m), .dat (clD kind a b x y), .dat (nar (-30) (x - 1))] = some (.d (.list [nar (-30) (x - 1), nar (y + 1) 30]), [.dat (askD wd rd m), .dat (clD kind a b x y), .dat (nar (-30) (x - 1))]) := by
      unfold fz mLst
      rw [mArgs_cons (a := .d (nar (-30) (x - 1))) (as := [.d (nar (y + 1) 30)]) rfl (mArgs_one (by unfold fz; rw [g1]; rfl))]
      rfl
    exact WS_ret (E_fz (E_callD [askD wd rd m, .list [nar (-30) (x - 1), nar (y + 1) 30]] (mArgs_cons rfl (mArgs_one hl)) (ask_list_ok wd rd m _ (by simp)) ⟨_, rfl, _, rfl, _, rfl, rfl⟩))
  refine DF.of ?_
  show WS b_denial_cases [.dat (askD wd rd m), .dat (clD kind a b x y)] _
  exact WS_ret (E_fz (E_mN (E_cons (E_fz (E_callD [askD wd rd m, clD kind a b x y] rfl hc ⟨_, rfl, E_nil ⟨_, _, rfl, rfl, ⟨_, rfl, _, rfl, _, rfl, rfl⟩⟩⟩)))))
end K28
/-! k28 in plain Lean: _law_range -/
namespace K28
open PySem hiding Env
open PySem.W PyProof.Rows L2 HD G
theorem lnk_fst {a b : Str} (h : ltS a b = true) : lnk a b = (a, b) := if_pos h
theorem lnk_snd {a b : Str} (h : ¬ltS a b = true) : lnk a b = (b, a) := if_neg h
theorem range_s {W : Web} (hW : GoodW W) (od : Dart) {C : List (List Bd)} {L : List (Int × Int × Int)} {a b : Str} (hd : (a, b) ∈ darts W) {t : Int × Int × Int} (e1 : L[lplc W a b]? = some t) (x y : Int) : DF m_law_range [webD W od, rulD C L, clD "swing" a b x y] (bD (seen a b t)) := by
  refine DF.of ?_
  show WS b_law_range [.dat (webD W od), .dat (rulD C L), .dat (clD "swing" a b x y), .non, .non, .non, .non, .non, .non, .non, .non, .non, .non, .non] _
  refine WS_seq (WS_asg (.keep (a := .d (clD "swing" a b x y)) rfl ⟨_, _, rfl, rfl, ?_⟩))
  show WS _ [.dat (webD W od), .dat (rulD C L), .dat (clD "swing" a b x y), .dat (.str "swing"), .dat (.str a), .dat (.str b), .dat (.int x), .dat (.int y), .non, .non, .non, .non, .non, .non] _
  refine WS_seq (WS_if (E_tst (E_m2 (.keep (a := .d (.str "swing")) rfl (.keep (a := .d (.str "corner")) rfl ⟨_, _, _, rfl, rfl, ks, false, rfl, ?_⟩)))))
  rw [if_neg (by decide)]
  refine ⟨_, rfl, ?_⟩
  refine WS_seq (WS_set (E_fz (E_callD [webD W od] rfl (law_links_ok hW od) ⟨_, rfl, _, rfl, ?_⟩)))
  show WS _ [.dat (webD W od), .dat (rulD C L), .dat (clD "swing" a b x y), .dat (.str "swing"), .dat (.str a), .dat (.str b), .dat (.int x), .dat (.int y), .non, .non, .non, .non, .dat (.list ((links W).map sD)), .non] _
  obtain ⟨ne, hm⟩ := lnk_mem hW hd
  have hidx := idx_dartE hm (links_ok hW)
  refine WS_seq (WS_if (E_tst (E_m2 (.keep (a := .d (.str a)) rfl (.keep (a := .d (.str b)) rfl ⟨_, _, _, rfl, rfl, lt_str a b, _, rfl, ?_⟩)))))
  by_cases hl : ltS a b = true
  · rw [if_pos hl]
    rw [lnk_fst hl] at hidx
    have e1' : L[(links W).idxOf (a, b)]? = some t := by
      have := e1
      unfold lplc at this
      rwa [lnk_fst hl] at this
    have hse : seen a b t = (t.1, t.2.1) := if_pos hl
    rw [hse]
    have hix : fz (m2 ixD (m2 ixD (mVar 1) (mC (.int 1))) (mIdx (mVar 12) (mTup [mVar 4, mVar 5]))) [.dat (webD W od), .dat (rulD C L), .dat (clD "swing" a b x y), .dat (.str "swing"), .dat (.str a), .dat (.str b), .dat (.int x), .dat (.int y), .non, .non, .non, .non, .dat (.list ((links W).map sD)), .non] = some (.d (tD t), [.dat (webD W od), .dat (rulD C L), .dat (clD "swing" a b x y), .dat (.str "swing"), .dat (.str a), .dat (.str b), .dat (.int x), .dat (.int y), .non, .non, .non, .non, .dat (.list ((links W).map sD)), .non]) := by
      obtain ⟨v, ρ', g1, g2⟩ := E_fz (m := m2 ixD (m2 ixD (mVar 1) (mC (.int 1))) (mIdx (mVar 12) (mTup [mVar 4, mVar 5]))) (ρ := [.dat (webD W od), .dat (rulD C L), .dat (clD "swing" a b x y), .dat (.str "swing"), .dat (.str a), .dat (.str b), .dat (.int x), .dat (.int y), .non, .non, .non, .non, .dat (.list ((links W).map sD)), .non])
        (Q := fun v ρ' => v = .d (tD t) ∧ ρ' = [.dat (webD W od), .dat (rulD C L), .dat (clD "swing" a b x y), .dat (.str "swing"), .dat (.str a), .dat (.str b), .dat (.int x), .dat (.int y), .non, .non, .non, .non, .dat (.list ((links W).map sD)), .non])
        (E_m2 (.keep (a := .d (.tuple (L.map tD))) rfl (E_fz (E_idx (.keep (a := .d (.list ((links W).map sD))) rfl ⟨_, rfl, .keep (a := .d (sD (a, b))) rfl ⟨_, _, _, rfl, rfl, rfl, hidx, ⟨_, rfl, _, _, _, rfl, rfl, get_map e1', ⟨_, rfl, rfl, rfl⟩⟩⟩⟩)))))
      obtain ⟨rfl, rfl⟩ := g2
      exact g1
    have hc := cutp_hi (l := [.int t.1, .int t.2.1, .int t.2.2]) (n := 2) (by simp)
    exact WS_ret (E_fz (E_sl (a := .d (tD t)) (l := none) (u := some ((2 : Nat) : Int)) hix rfl rfl rfl rfl ⟨.d (bD (t.1, t.2.1)), by show some (AV.d (.tuple (G.cutD [.int t.1, .int t.2.1, .int t.2.2] none (some ((2 : Nat) : Int))))) = _; rw [hc]; rfl, _, rfl, _, rfl, rfl⟩))
  · rw [if_neg hl]
    refine ⟨_, rfl, ?_⟩
    rw [lnk_snd hl] at hidx
    have e1' : L[(links W).idxOf (b, a)]? = some t := by
      have := e1
      unfold lplc at this
      rwa [lnk_snd hl] at this
    have hse : seen a b t = (0 - t.2.1, 0 - t.1) := by
      unfold seen
      rw [if_neg hl, Int.zero_sub, Int.zero_sub]
    rw [hse]
    refine WS_seq (WS_set (E_fz (E_m2 (.keep (a := .d (.tuple (L.map tD))) rfl (E_fz (E_idx (.keep (a := .d (.list ((links W).map sD))) rfl ⟨_, rfl, .keep (a := .d (sD (b, a))) rfl ⟨_, _, _, rfl, rfl, rfl, hidx, ⟨_, rfl, _, _, _, rfl, rfl, get_map e1', ⟨_, rfl, _, rfl, ?_⟩⟩⟩⟩)))))))
    exact WS_ret (.keep (a := .d (bD (0 - t.2.1, 0 - t.1))) rfl ⟨_, rfl, _, rfl, rfl⟩)
end K28
/-! k28 in plain Lean: _law_range of a corner -/
namespace K28
open PySem hiding Env
open PySem.W PyProof.Rows L2 HD G
theorem range_c {W : Web} (hW : GoodW W) (od : Dart) {C : List (List Bd)} {L : List (Int × Int × Int)} {a b : Str} {r : List Str} (h1 : (a, r) ∈ W) (h2 : b ∈ r) {row : List Bd} {p : Bd} (e1 : C[plc W a]? = some row) (e2 : row[r.idxOf b]? = some p) (x y : Int) : DF m_law_range [webD W od, rulD C L, clD "corner" a b x y] (bD p) := by
  refine DF.of ?_
  show WS b_law_range [.dat (webD W od), .dat (rulD C L), .dat (clD "corner" a b x y), .non, .non, .non, .non, .non, .non, .non, .non, .non, .non, .non] _
  refine WS_seq (WS_asg (.keep (a := .d (clD "corner" a b x y)) rfl ⟨_, _, rfl, rfl, ?_⟩))
  show WS _ [.dat (webD W od), .dat (rulD C L), .dat (clD "corner" a b x y), .dat (.str "corner"), .dat (.str a), .dat (.str b), .dat (.int x), .dat (.int y), .non, .non, .non, .non, .non, .non] _
  refine WS_seq (WS_if (E_tst (E_m2 (.keep (a := .d (.str "corner")) rfl (.keep (a := .d (.str "corner")) rfl ⟨_, _, _, rfl, rfl, kc, true, rfl, ?_⟩)))))
  rw [if_pos rfl]
  have hm : a ∈ W.map (·.1) := List.mem_map.mpr ⟨_, h1, rfl⟩
  refine WS_seq (WS_setO (E_lc plD (fun p => some (.str p.1)) (E_src (.keep (a := .d (.tuple (W.map plD))) rfl ⟨_, .inr rfl, W, rfl, ?_, ?_, ?_, ?_⟩))))
  · intro q hq
    refine ⟨_, rfl, .keep (a := true) rfl ?_⟩
    rw [if_pos rfl]
    exact .keep (a := .d (.str q.1)) rfl ⟨_, rfl, rfl, rfl⟩
  · exact Nat.lt_of_le_of_lt hW.le (by decide)
  · intro v hv
    simp only [List.mem_cons, List.not_mem_nil, or_false] at hv
    rcases hv with rfl | rfl <;> exact .inl rfl
  have en : (W.filterMap fun q => some (PyData.str q.1)) = txL (W.map (·.1)) := by
    unfold txL
    rw [List.filterMap_eq_map', List.map_map]
    rfl
  rw [en]
  refine ⟨_, rfl, ?_⟩
  refine WS_frz ⟨.lst (txL (W.map (·.1))), .list (txL (W.map (·.1))), rfl, rfl, ?_⟩
  show WS _ [.dat (webD W od), .dat (rulD C L), .dat (clD "corner" a b x y), .dat (.str "corner"), .dat (.str a), .dat (.str b), .dat (.int x), .dat (.int y), .dat (.list (txL (W.map (·.1)))), .non, .non, .non, .non, .non] _
  have hs : ∀ z ∈ W.map (·.1), PyData.strOk z = true := fun z hz => by
    obtain ⟨q, hq, rfl⟩ := List.mem_map.mp hz
    exact (hW.row q.1 q.2 hq).2.2.2.2
  refine WS_seq (WS_set (E_fz (E_idx (.keep (a := .d (.list (txL (W.map (·.1))))) rfl ⟨_, rfl, .keep (a := .d (.str a)) rfl ⟨_, _, _, rfl, rfl, rfl, idx_listE hm hs, ⟨_, rfl, _, rfl, ?_⟩⟩⟩))))
  show WS _ [.dat (webD W od), .dat (rulD C L), .dat (clD "corner" a b x y), .dat (.str "corner"), .dat (.str a), .dat (.str b), .dat (.int x), .dat (.int y), .dat (.list (txL (W.map (·.1)))), .non, .non, .dat (.int (plc W a : Nat)), .non, .non] _
  have hpl : ixD (.tuple (W.map plD)) (.int (plc W a : Nat)) = some (.d (plD (a, r))) := get_map (plc_get hW h1)
  refine WS_ret (E_fz (E_m2 (E_fz (E_m2 (.keep (a := .d (.tuple (C.map rwD))) rfl (.keep (a := .d (.int (plc W a : Nat))) rfl ⟨_, _, _, rfl, rfl, get_map e1, ⟨_, rfl, ?_⟩⟩))))))
  refine E_fz (E_idx (E_fz (E_m2 (E_fz (E_m2 (.keep (a := .d (.tuple (W.map plD))) rfl (.keep (a := .d (.int (plc W a : Nat))) rfl ⟨_, _, _, rfl, rfl, hpl, ⟨_, rfl, .keep (a := .d (.int 1)) rfl ⟨_, _, .d (vW r), rfl, rfl, rfl, ⟨_, rfl, _, rfl, .keep (a := .d (.str b)) rfl ⟨_, _, _, rfl, rfl, rfl, idx_tupE h2, ⟨_, rfl, _, _, _, rfl, rfl, get_map (f := bD) e2, ⟨_, rfl, _, rfl, _, rfl, rfl⟩⟩⟩⟩⟩⟩⟩)))))))
end K28
/-! k28 in plain Lean: _law_narrowed -/
namespace K28
open PySem hiding Env
open PySem.W PyProof.Rows L2 HD G
theorem lnar_c {W : Web} (hW : GoodW W) (od : Dart) {C : List (List Bd)} {L : List (Int × Int × Int)} {a b : Str} {r : List Str} (h1 : (a, r) ∈ W) (h2 : b ∈ r) {row : List Bd} (e1 : C[plc W a]? = some row) (e3 : row.length = r.length) (hC : C.length = W.length) (x y lo hi : Int) :
    DF m_law_narrowed [webD W od, rulD C L, clD "corner" a b x y, .int lo, .int hi] (cNar C L (plc W a) (r.idxOf b) row lo hi) := by
  refine DF.of ?_
  show WS b_law_narrowed [.dat (webD W od), .dat (rulD C L), .dat (clD "corner" a b x y), .dat (.int lo), .dat (.int hi), .non, .non, .non, .non, .non, .non, .non, .non, .non, .non, .non, .non] _
  refine WS_seq (ws_if (u := decide (hi < lo)) rfl ?_)
  unfold cNar
  by_cases hlt : hi < lo
  · rw [if_pos (decide_eq_true hlt), if_pos hlt]
    exact ws_ret rfl ⟨_, rfl, rfl⟩
  rw [if_neg (by simpa using hlt), if_neg hlt]
  refine ws_nil ?_
  refine WS_seq (ws_asg (ev_sl (p := none) (q := some 3) ⟨_, rfl, rfl⟩ part_none rfl (v := .tuple [.str "corner", .str a, .str b]) (by rfl)).r rfl ?_)
  refine WS_seq (ws_asg ⟨_, rfl, rfl⟩ rfl ?_)
  show WS _ [.dat (webD W od), .dat (rulD C L), .dat (clD "corner" a b x y), .dat (.int lo), .dat (.int hi), .dat (.str "corner"), .dat (.str a), .dat (.str b), .dat (.tuple (C.map rwD)), .dat (.tuple (L.map tD)), .non, .non, .non, .non, .non, .non, .non] _
  refine WS_seq (ws_if (tst_m2 ⟨_, rfl, rfl⟩ ⟨_, rfl, rfl⟩ kc) ?_)
  rw [if_pos rfl]
  have hm : a ∈ W.map (·.1) := List.mem_map.mpr ⟨_, h1, rfl⟩
  refine WS_seq (WS_setO (E_lc plD (fun p => some (.str p.1)) (E_src (.keep (a := .d (.tuple (W.map plD))) rfl ⟨_, .inr rfl, W, rfl, ?_, ?_, ?_, ?_⟩))))
  · intro q hq
    refine ⟨_, rfl, .keep (a := true) rfl ?_⟩
    rw [if_pos rfl]
    exact .keep (a := .d (.str q.1)) rfl ⟨_, rfl, rfl, rfl⟩
  · exact Nat.lt_of_le_of_lt hW.le (by decide)
  · intro v hv
    simp only [List.mem_cons, List.not_mem_nil, or_false] at hv
    rcases hv with rfl | rfl <;> exact .inl rfl
  have en : (W.filterMap fun q => some (PyData.str q.1)) = txL (W.map (·.1)) := by
    unfold txL
    rw [List.filterMap_eq_map', List.map_map]
    rfl
  rw [en]
  refine ⟨_, rfl, ?_⟩
  refine WS_frz ⟨.lst (txL (W.map (·.1))), .list (txL (W.map (·.1))), rfl, rfl, ?_⟩
  show WS _ [.dat (webD W od), .dat (rulD C L), .dat (clD "corner" a b x y), .dat (.int lo), .dat (.int hi), .dat (.str "corner"), .dat (.str a), .dat (.str b), .dat (.tuple (C.map rwD)), .dat (.tuple (L.map tD)), .dat (.list (txL (W.map (·.1)))), .non, .non, .non, .non, .non, .non] _
  have hs : ∀ z ∈ W.map (·.1), PyData.strOk z = true := fun z hz => by
    obtain ⟨q, hq, rfl⟩ := List.mem_map.mp hz
    exact (hW.row q.1 q.2 hq).2.2.2.2
  refine WS_seq (ws_set (ev_idx ⟨_, rfl, rfl⟩ ⟨_, rfl, rfl⟩ (idx_listE hm hs)) ?_)
  show WS _ [.dat (webD W od), .dat (rulD C L), .dat (clD "corner" a b x y), .dat (.int lo), .dat (.int hi), .dat (.str "corner"), .dat (.str a), .dat (.str b), .dat (.tuple (C.map rwD)), .dat (.tuple (L.map tD)), .dat (.list (txL (W.map (·.1)))), .non, .non, .dat (.int (plc W a : Nat)), .non, .non, .non] _
  have hpl : ixD (.tuple (W.map plD)) (.int (plc W a : Nat)) = some (.d (plD (a, r))) := get_map (plc_get hW h1)
  refine WS_seq (ws_set (ev_idx (ev_m2 (ev_m2 (a := .tuple (W.map plD)) ⟨_, rfl, rfl⟩ ⟨_, rfl, rfl⟩ hpl).r (v := vW r) ⟨_, rfl, rfl⟩ rfl).r ⟨_, rfl, rfl⟩ (idx_tupE h2)) ?_)
  show WS _ [.dat (webD W od), .dat (rulD C L), .dat (clD "corner" a b x y), .dat (.int lo), .dat (.int hi), .dat (.str "corner"), .dat (.str a), .dat (.str b), .dat (.tuple (C.map rwD)), .dat (.tuple (L.map tD)), .dat (.list (txL (W.map (·.1)))), .non, .non, .dat (.int (plc W a : Nat)), .dat (.int (r.idxOf b : Nat)), .non, .non] _
  have hk : r.idxOf b < r.length := List.idxOf_lt_length_iff.mpr h2
  have hr4 := (hW.row _ _ h1).2.2.1
  have hi' := (List.getElem?_eq_some_iff.mp e1).1
  have h40 := hW.le
  refine WS_seq (ws_set (ev_splice (ds := row.map bD) (d := bD (lo, hi)) (ev_m2 ⟨_, rfl, rfl⟩ ⟨_, rfl, rfl⟩ (get_map e1)) rfl rfl (by rw [List.length_map]; omega) (by rw [List.length_map]; omega)) ?_)
  rw [← List.map_set]
  show WS _ [.dat (webD W od), .dat (rulD C L), .dat (clD "corner" a b x y), .dat (.int lo), .dat (.int hi), .dat (.str "corner"), .dat (.str a), .dat (.str b), .dat (.tuple (C.map rwD)), .dat (.tuple (L.map tD)), .dat (.list (txL (W.map (·.1)))), .non, .non, .dat (.int (plc W a : Nat)), .dat (.int (r.idxOf b : Nat)), .dat (rwD (row.set (r.idxOf b) (lo, hi))), .non] _
  refine ws_ret (ev_tup (as_cons (ev_splice (ds := C.map rwD) (d := rwD (row.set (r.idxOf b) (lo, hi))) rfl rfl rfl (by rw [List.length_map]; exact hi') (by rw [List.length_map]; omega)) (as_cons rfl as_nil))) (rt_end ?_ rfl)
  unfold rulD
  rw [List.map_set]
theorem lnar_s {W : Web} (hW : GoodW W) (od : Dart) {C : List (List Bd)} {L : List (Int × Int × Int)} (hL : L.length = (links W).length) {a b : Str} (hd : (a, b) ∈ darts W) {t : Int × Int × Int} (e1 : L[lplc W a b]? = some t) (x y lo hi : Int) :
    DF m_law_narrowed [webD W od, rulD C L, clD "swing" a b x y, .int lo, .int hi] (sNar C L (lplc W a b) a b t lo hi) := by
  refine DF.of ?_
  show WS b_law_narrowed [.dat (webD W od), .dat (rulD C L), .dat (clD "swing" a b x y), .dat (.int lo), .dat (.int hi), .non, .non, .non, .non, .non, .non, .non, .non, .non, .non, .non, .non] _
  refine WS_seq (ws_if (u := decide (hi < lo)) rfl ?_)
  unfold sNar
  by_cases hlt : hi < lo
  · rw [if_pos (decide_eq_true hlt), if_pos hlt]
    exact ws_ret rfl ⟨_, rfl, rfl⟩
  rw [if_neg (by simpa using hlt), if_neg hlt]
  refine ws_nil ?_
  refine WS_seq (ws_asg (ev_sl (p := none) (q := some 3) ⟨_, rfl, rfl⟩ part_none rfl (v := .tuple [.str "swing", .str a, .str b]) (by rfl)).r rfl ?_)
  refine WS_seq (ws_asg ⟨_, rfl, rfl⟩ rfl ?_)
  show WS _ [.dat (webD W od), .dat (rulD C L), .dat (clD "swing" a b x y), .dat (.int lo), .dat (.int hi), .dat (.str "swing"), .dat (.str a), .dat (.str b), .dat (.tuple (C.map rwD)), .dat (.tuple (L.map tD)), .non, .non, .non, .non, .non, .non, .non] _
  refine WS_seq (ws_if (tst_m2 ⟨_, rfl, rfl⟩ ⟨_, rfl, rfl⟩ ks) ?_)
  rw [if_neg (by decide)]
  refine ws_nil ?_
  obtain ⟨ne, hm⟩ := lnk_mem hW hd
  obtain ⟨sa, sb⟩ := hW.dart_ok hd
  have hidx := idx_dartE hm (links_ok hW)
  have hlk : Ev (mTup [mN (bestD PySem.W.minD) [mVar 6, mVar 7], mN (bestD PySem.W.maxD) [mVar 6, mVar 7]]) [.dat (webD W od), .dat (rulD C L), .dat (clD "swing" a b x y), .dat (.int lo), .dat (.int hi), .dat (.str "swing"), .dat (.str a), .dat (.str b), .dat (.tuple (C.map rwD)), .dat (.tuple (L.map tD)), .non, .non, .non, .non, .non, .non, .non] (sD (lnk a b)) := by
    rw [← lnk_pair ne]
    exact ev_tup (as_cons (ev_n2 ⟨_, rfl, rfl⟩ ⟨_, rfl, rfl⟩ (min_str sa sb)) (as_cons (ev_n2 ⟨_, rfl, rfl⟩ ⟨_, rfl, rfl⟩ (max_str sa sb)) as_nil))
  refine WS_seq (ws_set (ev_idx (ev_call (ds := [webD W od]) rfl (law_links_ok hW od)).r hlk.r hidx) ?_)
  show WS _ [.dat (webD W od), .dat (rulD C L), .dat (clD "swing" a b x y), .dat (.int lo), .dat (.int hi), .dat (.str "swing"), .dat (.str a), .dat (.str b), .dat (.tuple (C.map rwD)), .dat (.tuple (L.map tD)), .non, .non, .non, .dat (.int (lplc W a b : Nat)), .non, .non, .non] _
  have ht2 : ∀ s : Sl, Ev (m2 ixD (m2 ixD (mVar 9) (mVar 13)) (mC (.int 2))) [.dat (webD W od), .dat (rulD C L), .dat (clD "swing" a b x y), .dat (.int lo), .dat (.int hi), .dat (.str "swing"), .dat (.str a), .dat (.str b), .dat (.tuple (C.map rwD)), .dat (.tuple (L.map tD)), .non, .non, .non, .dat (.int (lplc W a b : Nat)), .non, .non, s] (.int t.2.2) := fun s => ev_m2 (ev_m2 ⟨_, rfl, rfl⟩ ⟨_, rfl, rfl⟩ (get_map e1)).r ⟨_, rfl, rfl⟩ rfl
  refine WS_seq (ws_set (ev_tup (ds := [.int lo, .int hi, .int t.2.2]) (as_cons rfl (as_cons rfl (as_cons (ht2 _) as_nil)))) ?_)
  show WS _ [.dat (webD W od), .dat (rulD C L), .dat (clD "swing" a b x y), .dat (.int lo), .dat (.int hi), .dat (.str "swing"), .dat (.str a), .dat (.str b), .dat (.tuple (C.map rwD)), .dat (.tuple (L.map tD)), .non, .non, .non, .dat (.int (lplc W a b : Nat)), .non, .non, .dat (tD (lo, hi, t.2.2))] _
  refine WS_seq (ws_if (u := ltS b a) rfl ?_)
  have fin : WS (mRet (mTup [mVar 8, m2 addD (m2 addD (mSl (mVar 9) none (some (mVar 13))) (mTup [mVar 16])) (mSl (mVar 9) (some (m2 addD (mVar 13) (mC (.int 1)))) none)])) [.dat (webD W od), .dat (rulD C L), .dat (clD "swing" a b x y), .dat (.int lo), .dat (.int hi), .dat (.str "swing"), .dat (.str a), .dat (.str b), .dat (.tuple (C.map rwD)), .dat (.tuple (L.map tD)), .non, .non, .non, .dat (.int (lplc W a b : Nat)), .non, .non, .dat (tD (newT a b lo hi t))] fun o => ∃ ρ', o = .rt (rulD C (L.set (lplc W a b) (newT a b lo hi t))) ρ' ∧ parsBack ([webD W od, rulD C L, clD "swing" a b x y, .int lo, .int hi].map Sl.dat) ρ' = some ([webD W od, rulD C L, clD "swing" a b x y, .int lo, .int hi].map Sl.dat) := by
    have hi' := (List.getElem?_eq_some_iff.mp e1).1
    have hl := hW.llen
    refine ws_ret (ev_tup (as_cons rfl (as_cons (ev_splice (ds := L.map tD) (d := tD (newT a b lo hi t)) rfl rfl rfl (by rw [List.length_map]; exact hi') (by rw [List.length_map]; omega)) as_nil))) (rt_end ?_ rfl)
    unfold rulD
    rw [List.map_set]
  by_cases hl : ltS a b = true
  · rw [if_neg (by rw [ltS_asymm hl]; decide)]
    refine ws_nil ?_
    have : newT a b lo hi t = (lo, hi, t.2.2) := if_pos hl
    rw [this] at fin
    rw [this]
    exact fin
  · rw [if_pos ((ltS_total ne).resolve_left hl)]
    have : newT a b lo hi t = (0 - hi, 0 - lo, t.2.2) := by
      unfold newT
      rw [if_neg hl, Int.zero_sub, Int.zero_sub]
    rw [this] at fin
    rw [this]
    exact ws_set (ev_tup (ds := [.int (0 - hi), .int (0 - lo), .int t.2.2]) (as_cons rfl (as_cons rfl (as_cons (ht2 _) as_nil)))) fin
end K28
/-! k28 in plain Lean: _law_cases -/
namespace K28
open PySem hiding Env
open PySem.W PyProof.Rows L2 HD G
/-- a claim in order: its range, what is left of the rules, as the law and as the program see it -/
structure ClOk (wd rd : PyData) (kind a b : Str) (x y : Int) (p : Bd) (N : Int → Int → PyData) : Prop where
  rng : DF m_law_range [wd, rd, clD kind a b x y] (bD p)
  law : ∀ lo hi, DF m_law_narrowed [wd, rd, clD kind a b x y, .int lo, .int hi] (N lo hi)
  prg : NarOk wd rd (clD kind a b x y) fun lo hi => N (max lo p.1) (min hi p.2)
  lo : -30 ≤ p.1
  hi : p.2 ≤ 30
  non : ∀ lo hi, G.isNon (N lo hi) = decide (hi < lo)
  ok : ∀ lo hi, nice (N lo hi) = true ∧ sz (N lo hi) ≤ 20000
def csTail : Ms := mSeq (mSetO 11 (mLst [])) (mSeq (mFor (mSrc (mVar 10)) (tgT [(tgN 12), (tgN 13)])
    (mSeq (mSet 14 (mCall m_law_narrowed [(mVar 3), (mVar 4), (mVar 1), (mVar 12), (mVar 13)]))
  (mIf (mtst (mIsN true (mVar 14)))
    (mExp (mMeth "list" obAppend 11 [(mTup [(mVar 3), (mVar 14), (mVar 5)])]))
    mNil)))
  (mRet (mN tupleD [(mVar 11)])))
theorem kept_app (w : PyData) (m : Int) (as bs : List PyData) : kept w m (as ++ bs) = kept w m as ++ kept w m bs := List.filterMap_append
theorem kept_len (w : PyData) (m : Int) (as : List PyData) : (kept w m as).length ≤ as.length := List.length_filterMap_le _ _
theorem cs_tail {wd rd : PyData} {kind a b : Str} {x y : Int} {p : Bd} {N : Int → Int → PyData} (h : ClOk wd rd kind a b x y p N) (m : Int) (dn : Bool) (rs : List Bd) (hl : rs.length ≤ 2) :
    WS csTail [.dat (askD wd rd m), .dat (clD kind a b x y), .dat (.bool dn), .dat wd, .dat rd, .dat (.int m), .dat (.int p.1), .dat (.int p.2), .dat (.int x), .dat (.int y), .dat (.list (rs.map bD)), .non, .non, .non, .non] fun o => ∃ ρ', o = .rt (.tuple (kept wd m (rs.map fun q => N q.1 q.2))) ρ' ∧ parsBack [.dat (askD wd rd m), .dat (clD kind a b x y), .dat (.bool dn)] ρ' = some [.dat (askD wd rd m), .dat (clD kind a b x y), .dat (.bool dn)] := by
  unfold csTail
  refine WS_seq (WS_setO (.keep (a := .fr (.lst [])) rfl ⟨_, rfl, ?_⟩))
  refine WS_seq (WS_for (E_src (.keep (a := .d (.list (rs.map bD))) rfl ⟨rs.map bD, .inl rfl, fun i ρ => ∃ s t u, ρ = [.dat (askD wd rd m), .dat (clD kind a b x y), .dat (.bool dn), .dat wd, .dat rd, .dat (.int m), .dat (.int p.1), .dat (.int p.2), .dat (.int x), .dat (.int y), .dat (.list (rs.map bD)), .own (.lst (kept wd m ((rs.take i).map fun q => N q.1 q.2))), s, t, u], ⟨_, _, _, rfl⟩, ?_, ?_⟩)))
  · rintro i z ρ hz ⟨s, t, u, rfl⟩
    rw [List.getElem?_map] at hz
    obtain ⟨q, hq, rfl⟩ := Option.map_eq_some_iff.mp hz
    obtain ⟨hi, hq2⟩ := List.getElem?_eq_some_iff.mp hq
    refine ⟨_, rfl, ?_⟩
    show WS _ [.dat (askD wd rd m), .dat (clD kind a b x y), .dat (.bool dn), .dat wd, .dat rd, .dat (.int m), .dat (.int p.1), .dat (.int p.2), .dat (.int x), .dat (.int y), .dat (.list (rs.map bD)), .own (.lst (kept wd m ((rs.take i).map fun q => N q.1 q.2))), .dat (.int q.1), .dat (.int q.2), u] _
    refine WS_seq (ws_set (ev_call (ds := [wd, rd, clD kind a b x y, .int q.1, .int q.2]) rfl (h.law q.1 q.2)) ?_)
    show WS _ [.dat (askD wd rd m), .dat (clD kind a b x y), .dat (.bool dn), .dat wd, .dat rd, .dat (.int m), .dat (.int p.1), .dat (.int p.2), .dat (.int x), .dat (.int y), .dat (.list (rs.map bD)), .own (.lst (kept wd m ((rs.take i).map fun q => N q.1 q.2))), .dat (.int q.1), .dat (.int q.2), .dat (N q.1 q.2)] _
    have e : (rs.take (i + 1)).map (fun q => N q.1 q.2) = (rs.take i).map (fun q => N q.1 q.2) ++ [N q.1 q.2] := by
      rw [List.take_succ_eq_append_getElem hi, List.map_append, hq2]
      rfl
    refine ws_if (u := !G.isNon (N q.1 q.2)) rfl ?_
    by_cases hn : G.isNon (N q.1 q.2) = true
    · rw [if_neg (by rw [hn]; decide)]
      refine ws_nil ⟨.dat (.int q.1), .dat (.int q.2), .dat (N q.1 q.2), ?_⟩
      rw [e, kept_app]
      have : kept wd m [N q.1 q.2] = [] := by
        unfold kept
        rw [List.filterMap_cons, if_pos hn]
        rfl
      rw [this, List.append_nil]
    · rw [if_pos (by simpa using hn)]
      refine ws_append (l := kept wd m ((rs.take i).map fun q => N q.1 q.2)) (d := askD wd (N q.1 q.2) m) rfl (ev_tup (as_cons rfl (as_cons rfl (as_cons rfl as_nil)))) ?_ ?_
      · have := kept_len wd m ((rs.take i).map fun q => N q.1 q.2)
        rw [List.length_map, List.length_take] at this
        exact Nat.lt_of_le_of_lt (show _ ≤ 2 by omega) (by decide)
      · refine ⟨.dat (.int q.1), .dat (.int q.2), .dat (N q.1 q.2), ?_⟩
        rw [e, kept_app]
        have : kept wd m [N q.1 q.2] = [askD wd (N q.1 q.2) m] := by
          unfold kept
          rw [List.filterMap_cons, if_neg hn]
          rfl
        rw [this]
        rfl
  · rintro ρ ⟨s, t, u, rfl⟩
    rw [List.length_map, List.take_length]
    exact ws_ret (ev_n1 ⟨_, rfl, rfl⟩ rfl) ⟨_, rfl, rfl⟩
theorem lcases_ok {wd rd : PyData} {kind a b : Str} {x y : Int} {p : Bd} {N : Int → Int → PyData} (h : ClOk wd rd kind a b x y p N) (m : Int) (dn : Bool) :
    DF m_law_cases [askD wd rd m, clD kind a b x y, .bool dn] (.tuple (kept wd m (if dn = true then [N p.1 (min p.2 (x - 1)), N (max p.1 (y + 1)) p.2] else [N (max p.1 x) (min p.2 y)]))) := by
  refine DF.of ?_
  show WS b_law_cases [.dat (askD wd rd m), .dat (clD kind a b x y), .dat (.bool dn), .non, .non, .non, .non, .non, .non, .non, .non, .non, .non, .non, .non] _
  refine WS_seq (ws_asg ⟨_, rfl, rfl⟩ rfl ?_)
  refine WS_seq (ws_asg (ev_call (ds := [wd, rd, clD kind a b x y]) rfl h.rng).r rfl ?_)
  refine WS_seq (ws_asg (ev_sl (p := some 3) (q := none) ⟨_, rfl, rfl⟩ rfl part_none (v := .tuple [.int x, .int y]) (by rfl)).r rfl ?_)
  show WS _ [.dat (askD wd rd m), .dat (clD kind a b x y), .dat (.bool dn), .dat wd, .dat rd, .dat (.int m), .dat (.int p.1), .dat (.int p.2), .dat (.int x), .dat (.int y), .non, .non, .non, .non, .non] _
  refine WS_seq (ws_set (ev_lst (as_cons (ev_tup (ds := [.int (max p.1 x), .int (min p.2 y)]) (as_cons (ev_n2 ⟨_, rfl, rfl⟩ ⟨_, rfl, rfl⟩ (max_int _ _)) (as_cons (ev_n2 ⟨_, rfl, rfl⟩ ⟨_, rfl, rfl⟩ (min_int _ _)) as_nil))) as_nil)) ?_)
  show WS _ [.dat (askD wd rd m), .dat (clD kind a b x y), .dat (.bool dn), .dat wd, .dat rd, .dat (.int m), .dat (.int p.1), .dat (.int p.2), .dat (.int x), .dat (.int y), .dat (.list ([(max p.1 x, min p.2 y)].map bD)), .non, .non, .non, .non] _
  refine WS_seq (ws_if (u := dn) rfl ?_)
  cases dn with
  | false =>
    rw [if_neg (by decide)]
    exact ws_nil (cs_tail h m false [(max p.1 x, min p.2 y)] (by simp))
  | true =>
    rw [if_pos rfl]
    refine ws_set (ev_lst (as_cons (ev_tup (ds := [.int p.1, .int (min p.2 (x - 1))]) (as_cons rfl (as_cons (ev_n2 ⟨_, rfl, rfl⟩ (b := .int (x - 1)) ⟨_, rfl, rfl⟩ (min_int _ _)) as_nil))) (as_cons (ev_tup (ds := [.int (max p.1 (y + 1)), .int p.2]) (as_cons (ev_n2 ⟨_, rfl, rfl⟩ (b := .int (y + 1)) ⟨_, rfl, rfl⟩ (max_int _ _)) (as_cons rfl as_nil))) as_nil))) ?_
    exact cs_tail h m true [(p.1, min p.2 (x - 1)), (max p.1 (y + 1), p.2)] (by simp)
end K28
/-! k28 in plain Lean: _law_asked -/
namespace K28
open PySem hiding Env
open PySem.W PyProof.Rows L2 HD G
def bump (sn : List Int) (n : Nat) : List Int := sn.set n ((sn[n]?).getD 0 + 1)
theorem bump_len {sn : List Int} {n : Nat} : (bump sn n).length = sn.length := List.length_set
/-- how many cases a claim has, its denial -/
def kpN (x y : Int) (p : Bd) : Nat := if min p.2 y < max p.1 x then 0 else 1
def dnN (x y : Int) (p : Bd) : Nat := (if min p.2 (x - 1) < p.1 then 0 else 1) + (if p.2 < max p.1 (y + 1) then 0 else 1)
theorem kept_cons {w : PyData} {m : Int} {N : Int → Int → PyData} (hn : ∀ lo hi, G.isNon (N lo hi) = decide (hi < lo)) (lo hi : Int) (l : List PyData) : (kept w m (N lo hi :: l)).length = (if hi < lo then 0 else 1) + (kept w m l).length := by
  unfold kept
  rw [List.filterMap_cons, hn]
  by_cases h : hi < lo
  · rw [if_pos (decide_eq_true h), if_pos h]
    exact (Nat.zero_add _).symm
  · rw [if_neg (by simpa using h), if_neg h]
    exact Nat.add_comm _ _
theorem kept_nice {w : PyData} {m : Int} (hw : nice w = true) {rows : List PyData} (hr : ∀ r ∈ rows, nice r = true) : nice (.tuple (kept w m rows)) = true := by
  rw [nice, niceAll_iff]
  intro x hx
  obtain ⟨r, h1, h2⟩ := List.mem_filterMap.mp hx
  split at h2
  · cases h2
  · cases h2
    unfold askD
    rw [nice, niceAll, niceAll, niceAll, niceAll, hw, hr r h1]
    rfl
theorem kept_sz {w : PyData} {m : Int} (hw : sz w ≤ 4000) : ∀ {rows : List PyData}, (∀ r ∈ rows, sz r ≤ 20000) → szAll (kept w m rows) ≤ 24002 * rows.length
  | [], _ => Nat.zero_le _
  | r :: rows, h => by
    have ih := kept_sz (m := m) hw (rows := rows) fun x hx => h x (List.mem_cons_of_mem _ hx)
    have h0 := h r (List.mem_cons_self ..)
    rw [List.length_cons, Nat.mul_succ]
    unfold kept at ih ⊢
    rw [List.filterMap_cons]
    split
    · omega
    · next b e =>
      split at e
      · cases e
      · cases e
        rw [szAll]
        have : sz (askD w r m) = sz w + (sz r + 1) + 1 := by
          unfold askD
          simp [sz, szAll]
        omega
--% SN $ := .par 0 (.lst (sn.map PyData.int))
theorem asked_ok {wd rd : PyData} {kind a b : Str} {x y : Int} {p : Bd} {N : Int → Int → PyData} (h : ClOk wd rd kind a b x y p N) (m : Int) (hw : nice wd = true) (hs : sz wd ≤ 4000) {sn : List Int} (hl : sn.length = 5) :
    m_law_asked [.dat (askD wd rd m), .dat (clD kind a b x y), .par 0 (.lst (sn.map PyData.int))] = some (.dt (.bool true), [.dat (askD wd rd m), .dat (clD kind a b x y), .par 0 (.lst ((bump (bump sn (kpN x y p)) (2 + dnN x y p)).map PyData.int))]) := by
  have key : ∃ f r, m_law_asked [.dat (askD wd rd m), .dat (clD kind a b x y), .par 0 (.lst (sn.map PyData.int))] = some (f, r) ∧ f = .dt (.bool true) ∧ r = [.dat (askD wd rd m), .dat (clD kind a b x y), .par 0 (.lst ((bump (bump sn (kpN x y p)) (2 + dnN x y p)).map PyData.int))] := by
    have hok : ∀ lo hi, nice (N lo hi) = true ∧ sz (N lo hi) ≤ 20000 := h.ok
    have c1 := lcases_ok h m false
    have c2 := lcases_ok h m true
    rw [if_neg (by decide)] at c1
    rw [if_pos rfl] at c2
    have p1 := cases_of_ok (m := m) h.prg
    have p2 := denial_cases_ok (m := m) h.prg
    rw [Int.max_comm x, Int.min_comm y] at p1
    rw [Int.max_eq_right h.lo, Int.min_comm (x - 1), Int.max_comm (y + 1), Int.min_eq_right h.hi] at p2
    have l1 : (kept wd m [N (max p.1 x) (min p.2 y)]).length = kpN x y p := by
      rw [kept_cons h.non]
      rfl
    have l2 : (kept wd m [N p.1 (min p.2 (x - 1)), N (max p.1 (y + 1)) p.2]).length = dnN x y p := by
      rw [kept_cons h.non, kept_cons h.non]
      rfl
    have s1 := same_ok (d := .tuple (kept wd m [N (max p.1 x) (min p.2 y)])) (kept_nice hw fun r hr => by rw [List.mem_singleton.mp hr]; exact (hok _ _).1) (by
      rw [sz]
      have := kept_sz (m := m) hs (rows := [N (max p.1 x) (min p.2 y)]) fun r hr => by rw [List.mem_singleton.mp hr]; exact (hok _ _).2
      rw [List.length_singleton] at this
      omega)
    have s2 := same_ok (d := .tuple (kept wd m [N p.1 (min p.2 (x - 1)), N (max p.1 (y + 1)) p.2])) (kept_nice hw fun r hr => by
      simp only [List.mem_cons, List.not_mem_nil, or_false] at hr
      rcases hr with rfl | rfl <;> exact (hok _ _).1) (by
      rw [sz]
      have := kept_sz (m := m) hs (rows := [N p.1 (min p.2 (x - 1)), N (max p.1 (y + 1)) p.2]) fun r hr => by
        simp only [List.mem_cons, List.not_mem_nil, or_false] at hr
        rcases hr with rfl | rfl <;> exact (hok _ _).2
      rw [List.length_cons, List.length_singleton] at this
      omega)
    have k1 : kpN x y p < 2 := by
      unfold kpN
      split <;> decide
    have k2 : dnN x y p < 3 := by
      unfold dnN
      split <;> split <;> decide
    generalize kept wd m [N (max p.1 x) (min p.2 y)] = K1 at c1 p1 l1 s1
    generalize kept wd m [N p.1 (min p.2 (x - 1)), N (max p.1 (y + 1)) p.2] = K2 at c2 p2 l2 s2
    generalize kpN x y p = n1 at l1 k1 ⊢
    generalize dnN x y p = n2 at l2 k2 ⊢
    refine fn_of ?_
    show WS b_law_asked [.dat (askD wd rd m), .dat (clD kind a b x y), .par 0 (.lst (sn.map PyData.int)), .non, .non] _
    refine WS_seq (ws_set (ev_call (ds := [askD wd rd m, clD kind a b x y, .bool false]) rfl c1) ?_)
    refine WS_seq (ws_set (ev_call (ds := [askD wd rd m, clD kind a b x y, .bool true]) rfl c2) ?_)
    show WS _ [.dat (askD wd rd m), .dat (clD kind a b x y), .par 0 (.lst (sn.map PyData.int)), .dat (.tuple K1), .dat (.tuple K2)] _
    have get : ∀ (sn : List Int) (n : Nat), sn.length = 5 → n < 5 → (sn.map PyData.int)[n]? = some (.int ((sn[n]?).getD 0)) := fun sn n h1 h2 => by
      rw [List.getElem?_map, List.getElem?_eq_getElem (by omega)]
      rfl
    have e1 : ∀ sn : List Int, Ev (mN lenD [mVar 3]) [.dat (askD wd rd m), .dat (clD kind a b x y), .par 0 (.lst (sn.map PyData.int)), .dat (.tuple K1), .dat (.tuple K2)] (.int (n1 : Int)) := fun sn => by
      rw [← l1]
      exact ev_n1 ⟨_, rfl, rfl⟩ rfl
    have e2 : ∀ sn : List Int, Ev (m2 addD (mC (.int 2)) (mN lenD [mVar 4])) [.dat (askD wd rd m), .dat (clD kind a b x y), .par 0 (.lst (sn.map PyData.int)), .dat (.tuple K1), .dat (.tuple K2)] (.int ((2 + n2 : Nat) : Int)) := fun sn => by
      rw [← l2, Int.natCast_add]
      exact ev_m2 ⟨_, rfl, rfl⟩ (ev_n1 (v := .int (K2.length : Int)) ⟨_, rfl, rfl⟩ rfl).r rfl
    refine WS_seq (ws_put (o := .lst (sn.map PyData.int)) (o' := .lst ((bump sn n1).map PyData.int)) (ev_m2 (ev_m2 (a := .list (sn.map PyData.int)) ⟨.b 2, rfl, rfl⟩ (e1 sn).r (ixD_list (get sn n1 hl (by omega)))).r ⟨_, rfl, rfl⟩ rfl) (e1 sn) rfl ?_ ?_)
    · rw [G.putL (by rw [List.length_map]; omega), ← List.map_set]
      rfl
    show WS _ [.dat (askD wd rd m), .dat (clD kind a b x y), .par 0 (.lst ((bump sn n1).map PyData.int)), .dat (.tuple K1), .dat (.tuple K2)] _
    have hl2 : (bump sn n1).length = 5 := by rw [bump_len, hl]
    generalize bump sn n1 = sn1 at hl2 ⊢
    refine WS_seq (ws_put (o := .lst (sn1.map PyData.int)) (o' := .lst ((bump sn1 (2 + n2)).map PyData.int)) (ev_m2 (ev_m2 (a := .list (sn1.map PyData.int)) ⟨.b 2, rfl, rfl⟩ (e2 sn1).r (ixD_list (get sn1 (2 + n2) hl2 (by omega)))).r ⟨_, rfl, rfl⟩ rfl) (e2 sn1) rfl ?_ ?_)
    · rw [G.putL (by rw [List.length_map]; omega), ← List.map_set]
      rfl
    show WS _ [.dat (askD wd rd m), .dat (clD kind a b x y), .par 0 (.lst ((bump sn1 (2 + n2)).map PyData.int)), .dat (.tuple K1), .dat (.tuple K2)] _
    generalize bump sn1 (2 + n2) = sn2
    refine WS_seq (ws_if (not_of (tst_call (ds := [.tuple K1, .tuple K1]) (as_cons (ev_call (ds := [askD wd rd m, clD kind a b x y]) rfl p1) (as_cons rfl as_nil)) s1)) ?_)
    rw [if_neg (by decide)]
    refine ws_nil ?_
    exact ws_ret (ev_call (ds := [.tuple K2, .tuple K2]) (as_cons (ev_callR (ds := [clD kind a b x y, askD wd rd m]) rfl p2) (as_cons rfl as_nil)) s2) ⟨_, rfl, rfl, rfl⟩
  obtain ⟨f, r, h, rfl, rfl⟩ := key
  exact h
end K28
/-! k28 in plain Lean: claims in order, _law_free -/
namespace K28
open PySem hiding Env
open PySem.W PyProof.Rows L2 HD G
theorem szAll_map {α : Type} {f : α → PyData} {n : Nat} : ∀ {l : List α}, (∀ x ∈ l, sz (f x) ≤ n) → szAll (l.map f) ≤ n * l.length
  | [], _ => Nat.zero_le _
  | x :: l, h => by
    have := szAll_map (l := l) fun y hy => h y (List.mem_cons_of_mem _ hy)
    have := h x (List.mem_cons_self ..)
    rw [List.map_cons, szAll, List.length_cons, Nat.mul_succ]
    omega
theorem nice_map {α : Type} {f : α → PyData} {l : List α} (h : ∀ x ∈ l, nice (f x) = true) : niceAll (l.map f) = true := by
  rw [niceAll_iff]
  intro y hy
  obtain ⟨x, hx, rfl⟩ := List.mem_map.mp hy
  exact h x hx
theorem rul_ok (C : List (List Bd)) (L : List (Int × Int × Int)) (hC : C.length ≤ 40) (hr : ∀ row ∈ C, row.length ≤ 4) (hL : L.length ≤ 160) : nice (rulD C L) = true ∧ sz (rulD C L) ≤ 20000 := by
  have n1 : niceAll (C.map rwD) = true := nice_map fun row _ => by
    unfold rwD
    rw [nice]
    exact nice_map fun p _ => by simp [bD, nice, niceAll]
  have n2 : niceAll (L.map tD) = true := nice_map fun t _ => by simp [tD, nice, niceAll]
  have s1 : szAll (C.map rwD) ≤ 13 * C.length := szAll_map fun row h => by
    unfold rwD
    rw [sz]
    have : szAll (row.map bD) ≤ 3 * row.length := szAll_map fun p _ => by simp [bD, sz, szAll]
    have := hr row h
    omega
  have s2 : szAll (L.map tD) ≤ 4 * L.length := szAll_map fun t _ => by simp [tD, sz, szAll]
  unfold rulD
  refine ⟨by simp [nice, niceAll, n1, n2], ?_⟩
  simp only [sz, szAll]
  omega
theorem txL_sz (r : List Str) : szAll (txL r) = r.length := by
  unfold txL
  induction r with
  | nil => rfl
  | cons x r ih =>
    rw [List.map_cons, szAll, ih, List.length_cons, sz]
    · omega
    · intro xs h
      cases h
theorem web_ok {W : Web} (hW : GoodW W) {d : Dart} (hd : d ∈ darts W) : nice (webD W d) = true ∧ sz (webD W d) ≤ 4000 := by
  have n1 : niceAll (W.map plD) = true := nice_map fun p hp => by
    have h := (hW.row p.1 p.2 hp)
    have : niceAll (txL p.2) = true := nice_map fun b hb => by
      rw [nice]
      exact hW.strok hp hb
    simp [plD, nice, niceAll, h.2.2.2.2, this]
  have s1 : szAll (W.map plD) ≤ 7 * W.length := szAll_map fun p hp => by
    have h := (hW.row p.1 p.2 hp).2.2.1
    have := txL_sz p.2
    simp only [plD, sz, szAll]
    omega
  obtain ⟨o1, o2⟩ := hW.dart_ok hd
  have := hW.le
  refine ⟨by simp [webD, nice, niceAll, n1, o1, o2], ?_⟩
  simp only [webD, sz, szAll]
  omega
theorem GoodR.row4 {W : Web} (hW : GoodW W) {C : List (List Bd)} {L : List (Int × Int × Int)} (h : GoodR W C L) : ∀ row ∈ C, row.length ≤ 4 := fun row hr => by
  obtain ⟨i, hi, e⟩ := List.getElem_of_mem hr
  have hi2 : i < W.length := by rw [← h.cl]; exact hi
  obtain ⟨row', e1, e2⟩ := h.cr i W[i].1 W[i].2 (List.getElem?_eq_getElem hi2)
  rw [List.getElem?_eq_getElem hi, e] at e1
  cases e1
  rw [e2]
  exact (hW.row _ _ (List.getElem_mem hi2)).2.2.1
theorem clok_c {W : Web} (hW : GoodW W) (od : Dart) {C : List (List Bd)} {L : List (Int × Int × Int)} (hR : GoodR W C L) {a b : Str} {r : List Str} (h1 : (a, r) ∈ W) (h2 : b ∈ r) : ∃ p row, row ∈ C ∧ p ∈ row ∧ ∀ x y, ClOk (webD W od) (rulD C L) "corner" a b x y p (cNar C L (plc W a) (r.idxOf b) row) := by
  obtain ⟨row, p, e1, e2, m1, m2, e3⟩ := hR.corner hW h1 h2
  have h4 := hR.row4 hW
  refine ⟨p, row, m1, m2, fun x y => ⟨range_c hW od h1 h2 e1 e2 x y, fun lo hi => lnar_c hW od h1 h2 e1 e3 hR.cl x y lo hi, fun lo hi => narrowed_c hW od hR h1 h2 e1 e2 e3 x y lo hi, (hR.cb row m1 p m2).1, (hR.cb row m1 p m2).2, fun lo hi => ?_, fun lo hi => ?_⟩⟩
  · unfold cNar
    by_cases h : hi < lo
    · rw [if_pos h, decide_eq_true h]
      rfl
    · rw [if_neg h, decide_eq_false h]
      rfl
  · unfold cNar
    split
    · exact ⟨rfl, by decide⟩
    · refine rul_ok _ _ (by rw [List.length_set, hR.cl]; exact hW.le) (fun w hw => ?_) (by rw [hR.ll]; exact hW.llen)
      rcases List.mem_or_eq_of_mem_set hw with z | rfl
      · exact h4 w z
      · rw [List.length_set]
        exact h4 row m1
theorem clok_s {W : Web} (hW : GoodW W) (od : Dart) {C : List (List Bd)} {L : List (Int × Int × Int)} (hR : GoodR W C L) {a b : Str} (hd : (a, b) ∈ darts W) {t : Int × Int × Int} (e1 : L[lplc W a b]? = some t) : ∀ x y, ClOk (webD W od) (rulD C L) "swing" a b x y (seen a b t) (sNar C L (lplc W a b) a b t) := fun x y => by
  have h4 := hR.row4 hW
  have hb := hR.lb t (List.mem_of_getElem? e1)
  refine ⟨range_s hW od hd e1 x y, fun lo hi => lnar_s hW od hR.ll hd e1 x y lo hi, fun lo hi => narrowed_s hW od hR hd e1 x y lo hi, ?_, ?_, fun lo hi => ?_, fun lo hi => ?_⟩
  · unfold seen
    split
    · exact hb.1
    · show -30 ≤ -t.2.1
      omega
  · unfold seen
    split
    · exact hb.2
    · show -t.1 ≤ 30
      omega
  · unfold sNar
    by_cases h : hi < lo
    · rw [if_pos h, decide_eq_true h]
      rfl
    · rw [if_neg h, decide_eq_false h]
      rfl
  · unfold sNar
    split
    · exact ⟨rfl, by decide⟩
    · exact rul_ok _ _ (by rw [hR.cl]; exact hW.le) h4 (by rw [List.length_set, hR.ll]; exact hW.llen)
/-- rules whose ranges are not empty -/
structure GoodQ (W : Web) (C : List (List Bd)) (L : List (Int × Int × Int)) : Prop extends GoodR W C L where
  cle : ∀ row ∈ C, ∀ p ∈ row, 1 ≤ p.1 ∧ p.1 ≤ p.2 ∧ p.2 ≤ 4
  lle : ∀ t ∈ L, -30 ≤ t.1 ∧ t.1 ≤ t.2.1 ∧ t.2.1 ≤ 30
theorem GoodQ.of {W : Web} {C : List (List Bd)} {L : List (Int × Int × Int)} (cl : C.length = W.length) (cr : ∀ (i : Nat) (a : Str) (r : List Str), W[i]? = some (a, r) → ∃ row, C[i]? = some row ∧ row.length = r.length) (ll : L.length = (links W).length)
    (cle : ∀ row ∈ C, ∀ p ∈ row, 1 ≤ p.1 ∧ p.1 ≤ p.2 ∧ p.2 ≤ 4) (lle : ∀ t ∈ L, -30 ≤ t.1 ∧ t.1 ≤ t.2.1 ∧ t.2.1 ≤ 30) : GoodQ W C L :=
  ⟨⟨cl, cr, fun row hr p hp => by have := cle row hr p hp; omega, ll, fun t ht => by have := lle t ht; omega⟩, cle, lle⟩
def frC (W : Web) : List (List Bd) := W.map fun p => List.replicate p.2.length (1, 4)
def frL (W : Web) : List (Int × Int × Int) := List.replicate (links W).length (-30, 30, 1)
theorem free_good (W : Web) : GoodQ W (frC W) (frL W) := by
  refine GoodQ.of (by unfold frC; rw [List.length_map]) (fun i a r h => ⟨List.replicate r.length (1, 4), by unfold frC; rw [List.getElem?_map, h]; rfl, List.length_replicate⟩) (by unfold frL; rw [List.length_replicate]) (fun row hr p hp => ?_) fun t ht => ?_
  · obtain ⟨q, _, rfl⟩ := List.mem_map.mp hr
    rw [(List.mem_replicate.mp hp).2]
    decide
  · rw [(List.mem_replicate.mp ht).2]
    decide
theorem mul_one {d : PyData} {n : Nat} (h : n ≤ 1000) : mulD (.list [d]) (.int (n : Int)) = some (.l (List.replicate n d)) := by
  have e : (List.replicate n [d]).flatten = List.replicate n d := by
    clear h
    induction n with
    | zero => rfl
    | succ n ih =>
      rw [List.replicate_succ, List.flatten_cons, ih]
      rfl
  have hc : -(2 ^ 63) ≤ (n : Int) ∧ (n : Int) < 2 ^ 63 ∧ [d].length * (n : Int).toNat < LIM := by
    refine ⟨by omega, by omega, ?_⟩
    rw [Int.toNat_natCast, List.length_singleton, Nat.one_mul]
    exact Nat.lt_of_le_of_lt h (by decide)
  unfold mulD
  dsimp only
  rw [if_pos hc, Int.toNat_natCast, e]
theorem free_ok {W : Web} (hW : GoodW W) (od : Dart) : DF m_law_free [webD W od] (rulD (frC W) (frL W)) := by
  refine DF.of ?_
  show WS b_law_free [.dat (webD W od), .non, .non, .non] _
  refine WS_seq (WS_setO (.keep (a := .fr (.lst [])) rfl ⟨_, rfl, ?_⟩))
  refine WS_seq (WS_for (E_src (.keep (a := .d (.tuple (W.map plD))) rfl ⟨W.map plD, .inr rfl, fun i ρ => ∃ s t, ρ = [.dat (webD W od), .own (.lst ((frC (W.take i)).map rwD)), s, t], ⟨_, _, rfl⟩, ?_, ?_⟩)))
  · rintro i z ρ hz ⟨s, t, rfl⟩
    rw [List.getElem?_map] at hz
    obtain ⟨⟨n, r⟩, hn, rfl⟩ := Option.map_eq_some_iff.mp hz
    obtain ⟨hi, hn2⟩ := List.getElem?_eq_some_iff.mp hn
    have hr4 := (hW.row n r (List.mem_of_getElem? hn)).2.2.1
    have h40 := hW.le
    refine ⟨_, rfl, ?_⟩
    show WS _ [.dat (webD W od), .own (.lst ((frC (W.take i)).map rwD)), .dat (.str n), .dat (vW r)] _
    have hl : lenD [vW r] = some (.d (.int (r.length : Int))) := by
      show some (Res.d (.int ((txL r).length : Int))) = _
      unfold txL
      rw [List.length_map]
    refine ws_append (l := (frC (W.take i)).map rwD) (d := .tuple (List.replicate r.length (bD (1, 4)))) rfl (ev_n1 (ev_m2l (ev_lst (ds := [bD (1, 4)]) rfl).r (ev_n1 ⟨_, rfl, rfl⟩ hl).r (mul_one (by omega))).r rfl) ?_ ?_
    · unfold frC
      rw [List.length_map, List.length_map, List.length_take]
      exact Nat.lt_of_le_of_lt (show _ ≤ 40 by omega) (by decide)
    · refine ⟨.dat (.str n), .dat (vW r), ?_⟩
      have e : (frC (W.take (i + 1))).map rwD = (frC (W.take i)).map rwD ++ [.tuple (List.replicate r.length (bD (1, 4)))] := by
        unfold frC
        rw [List.take_succ_eq_append_getElem hi, List.map_append, List.map_append, hn2]
        congr 1
        unfold rwD
        rw [List.map_singleton, List.map_singleton, List.map_replicate]
      rw [e]
      rfl
  · rintro ρ ⟨s, t, rfl⟩
    rw [List.length_map, List.take_length]
    have hl : lenD [.list ((links W).map sD)] = some (.d (.int ((links W).length : Int))) := by
      show some (Res.d (.int (((links W).map sD).length : Int))) = _
      rw [List.length_map]
    have h160 := hW.llen
    refine ws_ret (ev_tup (as_cons (ev_n1 (a := .list ((frC W).map rwD)) ⟨_, rfl, rfl⟩ rfl) (as_cons (ev_n1 (ev_m2l (ev_lst (ds := [tD (-30, 30, 1)]) rfl).r (ev_n1 (ev_call (ds := [webD W od]) rfl (law_links_ok hW od)).r hl).r (mul_one (by omega))).r rfl) as_nil))) (rt_end ?_ rfl)
    unfold rulD frL
    rw [List.map_replicate]
end K28
/-! k28 in plain Lean: _law_rules -/
namespace K28
open PySem hiding Env
open PySem.W PyProof.Rows L2 HD G
theorem E_takeF {ρ : G.Env} {i : Nat} {m : Mi Val} (many : Int) {o : Ob} {Q : AV → G.Env → Prop} (hs : ρ[i]? = some (.own o) ∨ ∃ k, ρ[i]? = some (.par k o)) (hg : GoodP o) (hm : Ev m ρ (.int many)) (h0 : 0 < many) (h1 : many < 2 ^ 60)
    (q : ∀ r o', 0 ≤ r → r < many → GoodP o' → Q (.d (.int r)) (setOb ρ i o')) : E (fz (mCall m_law_take [mVar i, m])) ρ Q := E_fz (E_take hs hg hm h0 h1 fun r o' a b c => ⟨.d (.int r), rfl, q r o' a b c⟩)
structure RowsI (W : Web) (i : Nat) (Cs : List (List Bd)) : Prop where
  len : Cs.length = i
  row : ∀ j a r, j < i → W[j]? = some (a, r) → ∃ row, Cs[j]? = some row ∧ row.length = r.length
  ok : ∀ row ∈ Cs, ∀ p ∈ row, 1 ≤ p.1 ∧ p.1 ≤ p.2 ∧ p.2 ≤ 4
theorem RowsI.step {W : Web} {i : Nat} {Cs : List (List Bd)} (h : RowsI W i Cs) {a : Str} {r : List Str} (hi : W[i]? = some (a, r)) {row : List Bd} (hl : row.length = r.length) (ho : ∀ p ∈ row, 1 ≤ p.1 ∧ p.1 ≤ p.2 ∧ p.2 ≤ 4) : RowsI W (i + 1) (Cs ++ [row]) := by
  refine ⟨by rw [List.length_append, h.len]; rfl, fun j b r' hj hb => ?_, fun w hw => ?_⟩
  · by_cases e : j < i
    · obtain ⟨w, h1, h2⟩ := h.row j b r' e hb
      exact ⟨w, by rw [List.getElem?_append_left (by rw [h.len]; exact e)]; exact h1, h2⟩
    · have : j = i := by omega
      subst this
      rw [hi] at hb
      cases hb
      exact ⟨row, by rw [List.getElem?_append_right (by rw [h.len]; exact Nat.le_refl _), h.len, Nat.sub_self]; rfl, hl⟩
  · rcases List.mem_append.mp hw with z | z
    · exact h.ok w z
    · rw [List.mem_singleton.mp z]
      exact ho
def rI1 (W : Web) (od : Dart) (tight : Int) (i : Nat) (ρ : G.Env) : Prop := ∃ (o : Ob) (Cs : List (List Bd)) (s4 s5 s6 s7 s8 s9 : Sl), ρ = [.par 0 o, .dat (webD W od), .own (.lst (Cs.map rwD)), .dat (.int tight), s4, s5, s6, s7, s8, s9, .non, .non, .non] ∧ GoodP o ∧ RowsI W i Cs
def rI2 (W : Web) (od : Dart) (tight : Int) (Cs : List (List Bd)) (n : Str) (r : List Str) (k : Nat) (ρ : G.Env) : Prop := ∃ (o : Ob) (row : List Bd) (s7 s8 s9 : Sl), ρ = [.par 0 o, .dat (webD W od), .own (.lst (Cs.map rwD)), .dat (.int tight), .dat (.str n), .dat (vW r), .own (.lst (row.map bD)), s7, s8, s9, .non, .non, .non] ∧ GoodP o ∧ row.length = k ∧ ∀ p ∈ row, 1 ≤ p.1 ∧ p.1 ≤ p.2 ∧ p.2 ≤ 4
def rI3 (W : Web) (od : Dart) (tight most : Int) (Cs : List (List Bd)) (s4 s5 s6 s7 : Sl) (k : Nat) (ρ : G.Env) : Prop := ∃ (o : Ob) (Ls : List (Int × Int × Int)) (s8 s9 s12 : Sl), ρ = [.par 0 o, .dat (webD W od), .own (.lst (Cs.map rwD)), .dat (.int tight), s4, s5, s6, s7, s8, s9, .own (.lst (Ls.map tD)), .dat (.int most), s12] ∧ GoodP o ∧ Ls.length = k ∧ ∀ t ∈ Ls, -30 ≤ t.1 ∧ t.1 ≤ t.2.1 ∧ t.2.1 ≤ 30
theorem mem5 {x : Int} (h : x ∈ [1, 1, 2, 1, (3 : Int)]) : 1 ≤ x ∧ x ≤ 3 := by
  simp only [List.mem_cons, List.not_mem_nil, or_false] at h
  omega
theorem mem3 {x : Int} (h : x ∈ [1, 3, (9 : Int)]) : 1 ≤ x ∧ x ≤ 9 := by
  simp only [List.mem_cons, List.not_mem_nil, or_false] at h
  omega
theorem rules_ok {W : Web} (hW : GoodW W) (od : Dart) {o : Ob} (hg : GoodP o) : ∃ o' C L, m_law_rules [.par 0 o, .dat (webD W od)] = some (.dt (rulD C L), [.par 0 o', .dat (webD W od)]) ∧ GoodP o' ∧ GoodQ W C L := by
  have key : ∃ f r, m_law_rules [.par 0 o, .dat (webD W od)] = some (f, r) ∧ ∃ o' C L, f = .dt (rulD C L) ∧ r = [.par 0 o', .dat (webD W od)] ∧ GoodP o' ∧ GoodQ W C L := by
    refine fn_of ?_
    show WS b_law_rules [.par 0 o, .dat (webD W od), .non, .non, .non, .non, .non, .non, .non, .non, .non, .non, .non] _
    refine WS_seq (WS_setO (.keep (a := .fr (.lst [])) rfl ⟨_, rfl, ?_⟩))
    refine WS_seq (WS_set (E_takeF 4 (.inr ⟨0, rfl⟩) hg rfl (by decide) (by decide) fun tight o1 t0 t1 hg1 => ⟨_, rfl, ?_⟩))
    refine WS_seq (WS_for (E_src (.keep (a := .d (.tuple (W.map plD))) rfl ⟨W.map plD, .inr rfl, rI1 W od tight, ⟨o1, [], _, _, _, _, _, _, rfl, hg1, rfl, fun j a r hj => absurd hj (Nat.not_lt_zero j), fun w hw => (nomatch hw)⟩, ?_, ?_⟩)))
    · rintro i z ρ hz ⟨o2, Cs, s4, s5, s6, s7, s8, s9, rfl, hg2, hI⟩
      rw [List.getElem?_map] at hz
      obtain ⟨⟨n, r⟩, hn, rfl⟩ := Option.map_eq_some_iff.mp hz
      obtain ⟨hi, hn2⟩ := List.getElem?_eq_some_iff.mp hn
      have hr4 := (hW.row n r (List.mem_of_getElem? hn)).2.2.1
      have h40 := hW.le
      refine ⟨_, rfl, ?_⟩
      refine WS_seq (WS_setO (.keep (a := .fr (.lst [])) rfl ⟨_, rfl, ?_⟩))
      refine WS_seq (WS_for (E_src (.keep (a := .d (vW r)) rfl ⟨txL r, .inr rfl, rI2 W od tight Cs n r, ⟨o2, [], _, _, _, rfl, hg2, rfl, fun p hp => (nomatch hp)⟩, ?_, ?_⟩)))
      · rintro k z ρ hz ⟨o3, row, s7, s8, s9, rfl, hg3, hl, ho⟩
        have hk : k < r.length := by
          have := (List.getElem?_eq_some_iff.mp hz).1
          unfold txL at this
          rwa [List.length_map] at this
        have app : ∀ (Q : Out → Prop) o lo hi, GoodP o → 1 ≤ lo → lo ≤ hi → hi ≤ 4 → (∀ ρ2, rI2 W od tight Cs n r (k + 1) ρ2 → Q (.nx ρ2)) → WS (mExp (mMeth "list" obAppend 6 [(mTup [(mVar 8), (mVar 9)])])) [.par 0 o, .dat (webD W od), .own (.lst (Cs.map rwD)), .dat (.int tight), .dat (.str n), .dat (vW r), .own (.lst (row.map bD)), .dat z, .dat (.int lo), .dat (.int hi), .non, .non, .non] Q := fun Q o lo hi hgo l1 l2 l3 q => by
          refine ws_append (l := row.map bD) (d := bD (lo, hi)) rfl rfl ?_ (q _ ⟨o, row ++ [(lo, hi)], .dat z, .dat (.int lo), .dat (.int hi), ?_, hgo, by rw [List.length_append, hl]; rfl, fun p hp => ?_⟩)
          · rw [List.length_map]
            exact Nat.lt_of_le_of_lt (show _ ≤ 4 by omega) (by decide)
          · rw [List.map_append]
            rfl
          · rcases List.mem_append.mp hp with z | z
            · exact ho p z
            · rw [List.mem_singleton.mp z]
              exact ⟨l1, l2, l3⟩
        refine ⟨_, rfl, ?_⟩
        refine WS_seq (ws_set (d := .int 1) rfl ?_)
        refine WS_seq (ws_set (d := .int 4) rfl ?_)
        show WS _ [.par 0 o3, .dat (webD W od), .own (.lst (Cs.map rwD)), .dat (.int tight), .dat (.str n), .dat (vW r), .own (.lst (row.map bD)), .dat z, .dat (.int 1), .dat (.int 4), .non, .non, .non] _
        refine WS_seq (WS_if (E_tst (E_m2 (E_takeF 8 (.inr ⟨0, rfl⟩) hg3 rfl (by decide) (by decide) fun c o4 c0 c1 hg4 => .keep (a := .d (.int tight)) rfl ⟨_, _, .d (.bool (decide (c < tight))), rfl, rfl, rfl, _, rfl, ?_⟩))))
        show if decide (c < tight) = true then WS _ [.par 0 o4, .dat (webD W od), .own (.lst (Cs.map rwD)), .dat (.int tight), .dat (.str n), .dat (vW r), .own (.lst (row.map bD)), .dat z, .dat (.int 1), .dat (.int 4), .non, .non, .non] _ else WS mNil [.par 0 o4, .dat (webD W od), .own (.lst (Cs.map rwD)), .dat (.int tight), .dat (.str n), .dat (vW r), .own (.lst (row.map bD)), .dat z, .dat (.int 1), .dat (.int 4), .non, .non, .non] _
        by_cases hc : c < tight
        · rw [if_pos (decide_eq_true hc)]
          refine WS_seq (WS_set (E_fz (E_m2 (.keep (a := .d (.list ([1, 1, 2, 1, 3].map PyData.int))) rfl (E_takeF 5 (.inr ⟨0, rfl⟩) hg4 rfl (by decide) (by decide) fun e o5 e0 e1 hg5 => ?_)))))
          obtain ⟨lo, hm1, hm2, _⟩ := ix_drawn (xs := [1, 1, 2, 1, 3]) (f := PyData.int) e0 e1
          obtain ⟨l1, l3⟩ := mem5 hm1
          refine ⟨_, _, _, rfl, rfl, hm2, ⟨_, rfl, _, rfl, ?_⟩⟩
          show WS _ [.par 0 o5, .dat (webD W od), .own (.lst (Cs.map rwD)), .dat (.int tight), .dat (.str n), .dat (vW r), .own (.lst (row.map bD)), .dat z, .dat (.int lo), .dat (.int 4), .non, .non, .non] _
          refine WS_set (E_fz (E_m2 (.keep (a := .d (.int lo)) rfl (E_takeF (5 - lo) (.inr ⟨0, rfl⟩) hg5 rfl (by omega) (by omega) fun e' o6 f0 f1 hg6 => ⟨_, _, .d (.int (lo + e')), rfl, rfl, rfl, ⟨_, rfl, _, rfl, ?_⟩⟩))))
          exact app _ o6 lo (lo + e') hg6 l1 (by omega) (by omega) fun ρ2 h => h
        · rw [if_neg (by simpa using hc)]
          refine ws_nil ?_
          exact app _ o4 1 4 hg4 (by decide) (by decide) (by decide) fun ρ2 h => h
      · rintro ρ ⟨o3, row, s7, s8, s9, rfl, hg3, hl, ho⟩
        unfold txL at hl
        rw [List.length_map] at hl
        show WS _ [.par 0 o3, .dat (webD W od), .own (.lst (Cs.map rwD)), .dat (.int tight), .dat (.str n), .dat (vW r), .own (.lst (row.map bD)), s7, s8, s9, .non, .non, .non] _
        refine ws_append (l := Cs.map rwD) (d := rwD row) rfl (ev_n1 (a := .list (row.map bD)) ⟨_, rfl, rfl⟩ rfl) ?_ ?_
        · rw [List.length_map, hI.len]
          exact Nat.lt_of_le_of_lt (show _ ≤ 40 by omega) (by decide)
        · refine ⟨o3, Cs ++ [row], .dat (.str n), .dat (vW r), .own (.lst (row.map bD)), s7, s8, s9, ?_, hg3, hI.step hn hl ho⟩
          rw [List.map_append]
          rfl
    · rintro ρ ⟨o2, Cs, s4, s5, s6, s7, s8, s9, rfl, hg2, hI⟩
      rw [List.length_map] at hI
      show WS _ [.par 0 o2, .dat (webD W od), .own (.lst (Cs.map rwD)), .dat (.int tight), s4, s5, s6, s7, s8, s9, .non, .non, .non] _
      refine WS_seq (WS_setO (.keep (a := .fr (.lst [])) rfl ⟨_, rfl, ?_⟩))
      refine WS_seq (WS_set (E_fz (E_m2 (.keep (a := .d (.list ([1, 3, 9].map PyData.int))) rfl (E_takeF 3 (.inr ⟨0, rfl⟩) hg2 rfl (by decide) (by decide) fun e o3 e0 e1 hg3 => ?_)))))
      obtain ⟨most, hm1, hm2, _⟩ := ix_drawn (xs := [1, 3, 9]) (f := PyData.int) e0 e1
      obtain ⟨l1, l3⟩ := mem3 hm1
      refine ⟨_, _, _, rfl, rfl, hm2, ⟨_, rfl, _, rfl, ?_⟩⟩
      show WS _ [.par 0 o3, .dat (webD W od), .own (.lst (Cs.map rwD)), .dat (.int tight), s4, s5, s6, s7, s8, s9, .own (.lst (([] : List (Int × Int × Int)).map tD)), .dat (.int most), .non] _
      have h160 := hW.llen
      refine WS_seq (WS_for (E_src ((ev_call (ds := [webD W od]) rfl (law_links_ok hW od)).kp ⟨(links W).map sD, .inl rfl, rI3 W od tight most Cs s4 s5 s6 s7, ⟨o3, [], _, _, _, rfl, hg3, rfl, fun p hp => (nomatch hp)⟩, ?_, ?_⟩)))
      · rintro k z ρ hz ⟨o4, Ls, s8, s9, s12, rfl, hg4, hl, ho⟩
        have hk : k < (links W).length := by
          have := (List.getElem?_eq_some_iff.mp hz).1
          rwa [List.length_map] at this
        have app : ∀ (Q : Out → Prop) o lo hi, GoodP o → -30 ≤ lo → lo ≤ hi → hi ≤ 30 → (∀ ρ2, rI3 W od tight most Cs s4 s5 s6 s7 (k + 1) ρ2 → Q (.nx ρ2)) → WS (mExp (mMeth "list" obAppend 10 [(mTup [(mVar 8), (mVar 9), (m2 addD (mC (.int 1)) (mCall m_law_take [(mVar 0), (mVar 11)]))])])) [.par 0 o, .dat (webD W od), .own (.lst (Cs.map rwD)), .dat (.int tight), s4, s5, s6, s7, .dat (.int lo), .dat (.int hi), .own (.lst (Ls.map tD)), .dat (.int most), .dat z] Q := fun Q o lo hi hgo l1 l2 l3 q => by
          refine WS_exp (E_append (l0 := Ls.map tD) rfl (E_fz (E_tup (E_cons (.keep (a := .d (.int lo)) rfl (E_cons (.keep (a := .d (.int hi)) rfl (E_cons (E_fz (E_m2 (.keep (a := .d (.int 1)) rfl (E_takeF most (.inr ⟨0, rfl⟩) hgo rfl (by omega) (by omega) fun e o' e0 e1 hg' => ⟨_, _, .d (.int (1 + e)), rfl, rfl, rfl, ⟨.d (.int (1 + e)), rfl, E_nil ⟨[.int lo, .int hi, .int (1 + e)], rfl, .d (tD (lo, hi, 1 + e)), rfl, _, Ls.map tD, rfl, rfl, ?_, ?_⟩⟩⟩))))))))))))
          · rw [List.length_map]
            exact Nat.lt_of_le_of_lt (show _ ≤ 160 by omega) (by decide)
          · refine q _ ⟨o', Ls ++ [(lo, hi, 1 + e)], .dat (.int lo), .dat (.int hi), .dat z, ?_, hg', by rw [List.length_append, hl]; rfl, fun p hp => ?_⟩
            · rw [List.map_append]
              rfl
            · rcases List.mem_append.mp hp with z | z
              · exact ho p z
              · rw [List.mem_singleton.mp z]
                exact ⟨l1, l2, l3⟩
        refine ⟨_, rfl, ?_⟩
        refine WS_seq (ws_set (d := .int (-30)) rfl ?_)
        refine WS_seq (ws_set (d := .int 30) rfl ?_)
        show WS _ [.par 0 o4, .dat (webD W od), .own (.lst (Cs.map rwD)), .dat (.int tight), s4, s5, s6, s7, .dat (.int (-30)), .dat (.int 30), .own (.lst (Ls.map tD)), .dat (.int most), .dat z] _
        refine WS_seq (WS_if (E_tst (E_m2 (E_takeF 8 (.inr ⟨0, rfl⟩) hg4 rfl (by decide) (by decide) fun c o5 c0 c1 hg5 => .keep (a := .d (.int tight)) rfl ⟨_, _, .d (.bool (decide (c < tight))), rfl, rfl, rfl, _, rfl, ?_⟩))))
        show if decide (c < tight) = true then WS _ [.par 0 o5, .dat (webD W od), .own (.lst (Cs.map rwD)), .dat (.int tight), s4, s5, s6, s7, .dat (.int (-30)), .dat (.int 30), .own (.lst (Ls.map tD)), .dat (.int most), .dat z] _ else WS mNil [.par 0 o5, .dat (webD W od), .own (.lst (Cs.map rwD)), .dat (.int tight), s4, s5, s6, s7, .dat (.int (-30)), .dat (.int 30), .own (.lst (Ls.map tD)), .dat (.int most), .dat z] _
        by_cases hc : c < tight
        · rw [if_pos (decide_eq_true hc)]
          refine WS_seq (WS_set (E_fz (E_m2 (E_takeF 4 (.inr ⟨0, rfl⟩) hg5 rfl (by decide) (by decide) fun e o6 e0 e1 hg6 => .keep (a := .d (.int 2)) rfl ⟨_, _, .d (.int (e - 2)), rfl, rfl, rfl, ⟨_, rfl, _, rfl, ?_⟩⟩))))
          show WS _ [.par 0 o6, .dat (webD W od), .own (.lst (Cs.map rwD)), .dat (.int tight), s4, s5, s6, s7, .dat (.int (e - 2)), .dat (.int 30), .own (.lst (Ls.map tD)), .dat (.int most), .dat z] _
          refine WS_set (E_fz (E_m2 (.keep (a := .d (.int (e - 2))) rfl (E_takeF 3 (.inr ⟨0, rfl⟩) hg6 rfl (by decide) (by decide) fun e' o7 f0 f1 hg7 => ⟨_, _, .d (.int (e - 2 + e')), rfl, rfl, rfl, ⟨_, rfl, _, rfl, ?_⟩⟩))))
          exact app _ o7 (e - 2) (e - 2 + e') hg7 (by omega) (by omega) (by omega) fun ρ2 h => h
        · rw [if_neg (by simpa using hc)]
          refine ws_nil ?_
          exact app _ o5 (-30) 30 hg5 (by decide) (by decide) (by decide) fun ρ2 h => h
      · rintro ρ ⟨o4, Ls, s8, s9, s12, rfl, hg4, hl, ho⟩
        rw [List.length_map] at hl
        refine ws_ret (ev_tup (as_cons (ev_n1 (a := .list (Cs.map rwD)) ⟨_, rfl, rfl⟩ rfl) (as_cons (ev_n1 (a := .list (Ls.map tD)) ⟨_, rfl, rfl⟩ rfl) as_nil))) ⟨_, rfl, o4, Cs, Ls, rfl, rfl, hg4, GoodQ.of hI.len (fun j a r h => hI.row j a r ((List.getElem?_eq_some_iff.mp h).1) h) hl hI.ok ho⟩
  obtain ⟨f, r, h, o', C, L, rfl, rfl, h1, h2⟩ := key
  exact ⟨o', C, L, h, h1, h2⟩
end K28
/-! k28 in plain Lean: _law_sides, _law_claim -/
namespace K28
open PySem hiding Env
open PySem.W PyProof.Rows L2 HD G
def vI (i : Int) : PyData := .int i
structure SdOk (W : Web) (D : List (Dart × Int)) : Prop where
  nd : (D.map (·.1)).Nodup
  sub : ∀ x ∈ D.map (·.1), x ∈ darts W
theorem SdOk.len {W : Web} (hW : GoodW W) {D : List (Dart × Int)} (h : SdOk W D) : D.length ≤ 160 := by
  have := nodup_len h.nd h.sub
  rw [List.length_map] at this
  exact Nat.le_trans this hW.dlen
theorem SdOk.put {W : Web} {D : List (Dart × Int)} (h : SdOk W D) {d : Dart} (hd : d ∈ darts W) (i : Int) : SdOk W (putA D d i) ∧ putA D d i ≠ [] := by
  refine ⟨⟨putA_nodup h.nd, fun x hx => ?_⟩, fun z => ?_⟩
  · rw [putA_keys] at hx
    split at hx
    · exact h.sub x hx
    · rcases List.mem_append.mp hx with z | z
      · exact h.sub x z
      · rw [List.mem_singleton.mp z]
        exact hd
  · have : (putA D d i).map (·.1) = [] := by rw [z]; rfl
    rw [putA_keys] at this
    split at this
    · next h =>
      rw [this] at h
      cases h
    · simp at this
def sdI (F : List (List Dart)) (W : Web) (i : Nat) (ρ : G.Env) : Prop := ∃ D s2 s3, ρ = [.dat (.list (F.map fD)), .own (.dN (tab nks vI D)), s2, s3] ∧ SdOk W D ∧ (0 < i → D ≠ [])
def sdI2 (F : List (List Dart)) (W : Web) (k : Int) (D0 : List (Dart × Int)) (i : Nat) (ρ : G.Env) : Prop := ∃ D s3, ρ = [.dat (.list (F.map fD)), .own (.dN (tab nks vI D)), .dat (.int k), s3] ∧ SdOk W D ∧ (0 < i → D ≠ [])
theorem sides_ok {W : Web} (hW : GoodW W) {F : List (List Dart)} (h0 : F ≠ []) (hF : ∀ f ∈ F, f ≠ [] ∧ ∀ d ∈ f, d ∈ darts W) (hl : F.length ≤ 160) : ∃ D, m_law_sides [.dat (.list (F.map fD))] = some (.ob (.dN (tab nks vI D)), [.dat (.list (F.map fD))]) ∧ SdOk W D ∧ D ≠ [] := by
  have key : ∃ f r, m_law_sides [.dat (.list (F.map fD))] = some (f, r) ∧ ∃ D, f = .ob (.dN (tab nks vI D)) ∧ r = [.dat (.list (F.map fD))] ∧ SdOk W D ∧ D ≠ [] := by
    refine fn_of ?_
    show WS b_law_sides [.dat (.list (F.map fD)), .non, .non, .non] _
    refine WS_seq (WS_setO (.keep (a := .fr (.dN [])) rfl ⟨_, rfl, ?_⟩))
    refine WS_seq (WS_for (E_rng1 (.keep (a := [.d (.int ((F.map fD).length : Int))]) rfl ⟨((F.map fD).length : Int), rfl, by rw [List.length_map]; omega, sdI F W, ⟨[], _, _, rfl, ⟨List.nodup_nil, fun x hx => (nomatch hx)⟩, fun z => absurd z (Nat.not_lt_zero 0)⟩, ?_, ?_⟩)))
    · rintro i z ρ hz ⟨D, s2, s3, rfl, hD, _⟩
      unfold G.intsFrom at hz
      rw [List.getElem?_map] at hz
      obtain ⟨k, hk, rfl⟩ := Option.map_eq_some_iff.mp hz
      have hkl := (List.getElem?_eq_some_iff.mp hk).1
      rw [List.length_range] at hkl
      have hke : k = i := by
        rw [List.getElem?_range hkl] at hk
        exact (Option.some.inj hk).symm
      subst hke
      rw [Int.toNat_natCast, List.length_map] at hkl
      have hz : ((0 : Int) + (k : Int)) = (k : Int) := Int.zero_add _
      rw [hz]
      refine ⟨_, rfl, ?_⟩
      have hg : ixD (.list (F.map fD)) (.int (k : Int)) = some (.d (fD F[k])) := ixD_list (by rw [List.getElem?_map, List.getElem?_eq_getElem hkl]; rfl)
      obtain ⟨hf0, hf⟩ := hF F[k] (List.getElem_mem hkl)
      refine WS_for (E_src ((ev_m2 (a := .list (F.map fD)) (b := .int (k : Int)) ⟨_, rfl, rfl⟩ ⟨_, rfl, rfl⟩ hg).kp ⟨F[k].map sD, .inr rfl, sdI2 F W k D, ⟨D, _, rfl, hD, fun z => absurd z (Nat.not_lt_zero 0)⟩, ?_, ?_⟩))
      · rintro j z ρ hz ⟨D, s3, rfl, hD, _⟩
        rw [List.getElem?_map] at hz
        obtain ⟨d, hd, rfl⟩ := Option.map_eq_some_iff.mp hz
        have hdm := hf d (List.mem_of_getElem? hd)
        obtain ⟨p1, p2⟩ := hD.put hdm (k : Int)
        refine ⟨_, rfl, ?_⟩
        refine ws_put (o := .dN (tab nks vI D)) (d := vI (k : Int)) (k := sD d) rfl rfl rfl (kn_dart.put (Nat.lt_of_le_of_lt (hD.len hW) (by decide)) d (k : Int)) ?_
        exact ⟨_, _, rfl, p1, fun _ => p2⟩
      · rintro ρ ⟨D, s3, rfl, hD, hp⟩
        rw [List.length_map] at hp
        exact ⟨D, _, _, rfl, hD, fun _ => hp (List.length_pos_iff.mpr hf0)⟩
    · rintro ρ ⟨D, s2, s3, rfl, hD, hp⟩
      refine WS_retO (.inl ⟨_, rfl, _, rfl, D, rfl, rfl, hD, hp ?_⟩)
      unfold G.intsFrom
      rw [List.length_map, List.length_range, Int.toNat_natCast, List.length_map]
      exact List.length_pos_iff.mpr h0
  obtain ⟨f, r, h, D, rfl, rfl, h1, h2⟩ := key
  exact ⟨D, h, h1, h2⟩
def unSD : PyData → Dart
  | .tuple [.str a, .str b] => (a, b)
  | _ => ("", "")
theorem sorted_darts {S : List Dart} (h : ∀ d ∈ S, PyData.strOk d.1 = true ∧ PyData.strOk d.2 = true) : ∃ S' : List Dart, sortedD [.list (S.map sD)] = some (.l (S'.map sD)) ∧ S'.Perm S := by
  obtain ⟨S', h1, h2⟩ := perm_unmap (f := sD) (g := unSD) (fun a => rfl) (sortP_perm (S.map sD))
  refine ⟨S', ?_, h2⟩
  show (if okSort (S.map sD) && G.sortable (S.map sD) then some (Res.l (sortP (S.map sD))) else none) = _
  have hs : G.sortable (S.map sD) = true := by
    unfold G.sortable
    rw [Bool.or_eq_true]
    refine .inl ?_
    rw [List.all_eq_true]
    intro d hd
    obtain ⟨a, _, rfl⟩ := List.mem_map.mp hd
    rfl
  rw [(okList_darts h).okSort, hs, h1]
  rfl
end K28
/-! k28 in plain Lean: _law_claim -/
namespace K28
open PySem hiding Env
open PySem.W PyProof.Rows L2 HD G
theorem swing_low {t : Int} (h0 : 0 ≤ t) (h1 : t < 61) {x : Int} (h : x ∈ [0, 0, 1, -1, -30, 30, t - 30]) : -30 ≤ x ∧ x ≤ 30 := by
  simp only [List.mem_cons, List.not_mem_nil, or_false] at h
  omega
theorem claim_ok {W : Web} (hW : GoodW W) (od : Dart) {o : Ob} (hg : GoodP o) : ∃ o' kind a b x y, m_law_claim [.par 0 o, .dat (webD W od)] = some (.dt (clD kind a b x y), [.par 0 o', .dat (webD W od)]) ∧ GoodP o' ∧ (a, b) ∈ darts W ∧ (kind = "corner" ∨ kind = "swing") := by
  have key : ∃ f r, m_law_claim [.par 0 o, .dat (webD W od)] = some (f, r) ∧ ∃ o' kind a b x y, f = .dt (clD kind a b x y) ∧ r = [.par 0 o', .dat (webD W od)] ∧ GoodP o' ∧ (a, b) ∈ darts W ∧ (kind = "corner" ∨ kind = "swing") := by
    refine fn_of ?_
    show WS b_law_claim [.par 0 o, .dat (webD W od), .non, .non, .non, .non, .non, .non] _
    obtain ⟨F, hF, hF0, hF1, hF2⟩ := faces_ok hW od
    obtain ⟨D, hD, hD1, hD2⟩ := sides_ok hW hF0 hF1 hF2
    have hfe : Ev (mCall m_law_faces [mVar 1]) [.par 0 o, .dat (webD W od), .non, .non, .non, .non, .non, .non] (.list (F.map fD)) := ev_call (ds := [webD W od]) rfl hF
    refine WS_seq (WS_set (E_fz (E_call (E_cons (hfe.kp (E_nil ⟨(by show ([] : List Nat).Nodup; exact List.nodup_nil), [.dat (.list (F.map fD))], rfl, .ob (.dN (tab nks vI D)), [.dat (.list (F.map fD))], .fr (.dN (tab nks vI D)), _, hD, rfl, rfl, ⟨.d (.dict ((tab nks vI D).map fun e => (nkD e.1, e.2))), rfl, _, rfl, ?_⟩⟩))))))
    have hDl : D.length < LIM := Nat.lt_of_le_of_lt (hD1.len hW) (by decide)
    obtain ⟨S, hS, hS2⟩ := sorted_darts (S := D.map (·.1)) fun d hd => hW.dart_ok (hD1.sub d hd)
    have hlist := kn_dart.list (v := vI) hDl
    have em : (D.map fun e => sD e.1) = (D.map (·.1)).map sD := by rw [List.map_map]; rfl
    rw [em] at hlist
    refine WS_seq (ws_set (ev_n1l (ev_n1l (a := .dict ((tab nks vI D).map fun e => (nkD e.1, e.2))) ⟨_, rfl, rfl⟩ hlist).r hS) ?_)
    show WS _ [.par 0 o, .dat (webD W od), .dat (.dict ((tab nks vI D).map fun e => (nkD e.1, e.2))), .dat (.list (S.map sD)), .non, .non, .non, .non] _
    have hSl : S.length = D.length := by rw [hS2.length_eq, List.length_map]
    have hSp : 0 < S.length := by rw [hSl]; exact List.length_pos_iff.mpr hD2
    have hSle : S.length ≤ 160 := by rw [hSl]; exact hD1.len hW
    have hSL : ((S.map sD).length : Int) = (S.length : Int) := by rw [List.length_map]
    refine WS_seq (WS_asg (E_fz (E_m2 (.keep (a := .d (.list (S.map sD))) rfl (E_takeF ((S.map sD).length : Int) (.inr ⟨0, rfl⟩) hg (ev_n1 (a := .list (S.map sD)) ⟨_, rfl, rfl⟩ rfl) (by omega) (by omega) fun e o1 e0 e1 hg1 => ?_)))))
    obtain ⟨d, hd, hix, _⟩ := ix_drawn (xs := S) (f := sD) e0 e1
    have hdW : d ∈ darts W := hD1.sub d (hS2.mem_iff.mp hd)
    refine ⟨_, _, _, rfl, rfl, hix, ⟨_, rfl, _, _, rfl, rfl, ?_⟩⟩
    show WS _ [.par 0 o1, .dat (webD W od), .dat (.dict ((tab nks vI D).map fun e => (nkD e.1, e.2))), .dat (.list (S.map sD)), .dat (.str d.1), .dat (.str d.2), .non, .non] _
    refine WS_seq (WS_if (E_tst (E_m2 (E_takeF 2 (.inr ⟨0, rfl⟩) hg1 rfl (by decide) (by decide) fun z o2 z0 z1 hg2 => .keep (a := .d (.int 0)) rfl ⟨_, _, _, rfl, rfl, eq_int z 0, _, rfl, ?_⟩))))
    by_cases hz : z = 0
    · rw [if_pos (decide_eq_true hz)]
      refine WS_seq (WS_set (E_fz (E_m2 (.keep (a := .d (.int 1)) rfl (E_takeF 4 (.inr ⟨0, rfl⟩) hg2 rfl (by decide) (by decide) fun q o3 q0 q1 hg3 => ⟨_, _, .d (.int (1 + q)), rfl, rfl, rfl, ⟨_, rfl, _, rfl, ?_⟩⟩)))))
      show WS _ [.par 0 o3, .dat (webD W od), .dat (.dict ((tab nks vI D).map fun e => (nkD e.1, e.2))), .dat (.list (S.map sD)), .dat (.str d.1), .dat (.str d.2), .dat (.int (1 + q)), .non] _
      refine WS_ret (E_fz (E_tup (E_cons (.keep (a := .d (.str "corner")) rfl (E_cons (.keep (a := .d (.str d.1)) rfl (E_cons (.keep (a := .d (.str d.2)) rfl (E_cons (.keep (a := .d (.int (1 + q))) rfl (E_cons (E_fz (E_m2 (.keep (a := .d (.int (1 + q))) rfl (E_takeF (5 - (1 + q)) (.inr ⟨0, rfl⟩) hg3 rfl (by omega) (by omega) fun u o4 u0 u1 hg4 => ⟨_, _, .d (.int (1 + q + u)), rfl, rfl, rfl, ⟨_, rfl, E_nil ⟨_, rfl, ⟨_, rfl, _, rfl, [.par 0 o4, .dat (webD W od)], rfl, o4, "corner", d.1, d.2, 1 + q, 1 + q + u, rfl, rfl, hg4, hdW, .inl rfl⟩⟩⟩⟩)))))))))))))))
    · rw [if_neg (by simpa using hz)]
      refine ws_nil ?_
      show WS _ [.par 0 o2, .dat (webD W od), .dat (.dict ((tab nks vI D).map fun e => (nkD e.1, e.2))), .dat (.list (S.map sD)), .dat (.str d.1), .dat (.str d.2), .non, .non] _
      refine WS_seq (WS_set (E_fz (E_m2 (E_fz (E_lst (E_cons (.keep (a := .d (.int 0)) rfl (E_cons (.keep (a := .d (.int 0)) rfl (E_cons (.keep (a := .d (.int 1)) rfl (E_cons (.keep (a := .d (.int (-1))) rfl (E_cons (.keep (a := .d (.int (-30))) rfl (E_cons (.keep (a := .d (.int 30)) rfl (E_cons (E_fz (E_m2 (E_takeF 61 (.inr ⟨0, rfl⟩) hg2 rfl (by decide) (by decide) fun t o3 t0 t1 hg3 => .keep (a := .d (.int 30)) rfl ⟨_, _, .d (.int (t - 30)), rfl, rfl, rfl, ⟨_, rfl, E_nil ⟨_, rfl, ⟨.d (.list ([0, 0, 1, -1, -30, 30, t - 30].map PyData.int)), rfl, E_takeF 7 (.inr ⟨0, rfl⟩) hg3 rfl (by decide) (by decide) fun e' o4 f0 f1 hg4 => ?_⟩⟩⟩⟩)))))))))))))))))))))
      obtain ⟨x, hx1, hx2, _⟩ := ix_drawn (xs := [0, 0, 1, -1, -30, 30, t - 30]) (f := PyData.int) f0 f1
      have hx := swing_low t0 t1 hx1
      refine ⟨_, _, _, rfl, rfl, hx2, ⟨_, rfl, _, rfl, ?_⟩⟩
      show WS _ [.par 0 o4, .dat (webD W od), .dat (.dict ((tab nks vI D).map fun e => (nkD e.1, e.2))), .dat (.list (S.map sD)), .dat (.str d.1), .dat (.str d.2), .dat (.int x), .non] _
      refine WS_seq (WS_set (E_fz (E_m2 (E_fz (E_lst (E_cons (.keep (a := .d (.int x)) rfl (E_cons (.keep (a := .d (.int x)) rfl (E_cons (.keep (a := .d (.int 30)) rfl (E_cons (E_fz (E_m2 (.keep (a := .d (.int x)) rfl (E_takeF (31 - x) (.inr ⟨0, rfl⟩) hg4 rfl (by omega) (by omega) fun t' o5 u0 u1 hg5 => ⟨_, _, .d (.int (x + t')), rfl, rfl, rfl, ⟨_, rfl, E_nil ⟨_, rfl, ⟨.d (.list ([x, x, 30, x + t'].map PyData.int)), rfl, E_takeF 4 (.inr ⟨0, rfl⟩) hg5 rfl (by decide) (by decide) fun e'' o6 v0 v1 hg6 => ?_⟩⟩⟩⟩))))))))))))))))
      obtain ⟨y, hy1, hy2, _⟩ := ix_drawn (xs := [x, x, 30, x + t']) (f := PyData.int) v0 v1
      refine ⟨_, _, _, rfl, rfl, hy2, ⟨_, rfl, _, rfl, ?_⟩⟩
      show WS _ [.par 0 o6, .dat (webD W od), .dat (.dict ((tab nks vI D).map fun e => (nkD e.1, e.2))), .dat (.list (S.map sD)), .dat (.str d.1), .dat (.str d.2), .dat (.int x), .dat (.int y)] _
      exact ws_ret rfl ⟨[.par 0 o6, .dat (webD W od)], rfl, o6, "swing", d.1, d.2, x, y, rfl, rfl, hg6, hdW, .inr rfl⟩
  obtain ⟨f, r, h, o', kind, a, b, x, y, rfl, rfl, h1, h2, h3⟩ := key
  exact ⟨o', kind, a, b, x, y, h, h1, h2, h3⟩
end K28
/-! k28 in plain Lean: _law_claims -/
namespace K28
open PySem hiding Env
open PySem.W PyProof.Rows L2 HD G
/-- the range of a claim's corner or dart, what is left of the rules -/
theorem clok {W : Web} (hW : GoodW W) (od : Dart) {C : List (List Bd)} {L : List (Int × Int × Int)} (hR : GoodQ W C L) {kind a b : Str} (hd : (a, b) ∈ darts W) (hk : kind = "corner" ∨ kind = "swing") :
    ∃ p N, (∀ x y, ClOk (webD W od) (rulD C L) kind a b x y p N) ∧ p.1 ≤ p.2 := by
  rcases hk with rfl | rfl
  · obtain ⟨r, h1, h2⟩ := mem_darts.mp hd
    obtain ⟨p, row, m1, m2, h⟩ := clok_c hW od hR.toGoodR h1 h2
    exact ⟨p, _, h, (hR.cle row m1 p m2).2.1⟩
  · obtain ⟨t, e1, e2, _⟩ := hR.toGoodR.link hW hd
    refine ⟨seen a b t, _, clok_s hW od hR.toGoodR hd e1, ?_⟩
    have := hR.lle t e2
    unfold seen
    split
    · exact this.2.1
    · show -t.2.1 ≤ -t.1
      omega
abbrev Cl := Str × Str × Str × Int × Int
def cD5 (c : Cl) : PyData := clD c.1 c.2.1 c.2.2.1 c.2.2.2.1 c.2.2.2.2
def ClW (W : Web) (c : Cl) : Prop := (c.2.1, c.2.2.1) ∈ darts W ∧ (c.1 = "corner" ∨ c.1 = "swing")
theorem dart_back {W : Web} (hW : GoodW W) {a b : Str} (h : (a, b) ∈ darts W) : (b, a) ∈ darts W := by
  obtain ⟨r, h1, h2⟩ := mem_darts.mp h
  obtain ⟨r', h3, h4⟩ := hW.symm _ _ h1 _ h2
  exact mem_darts.mpr ⟨r', h3, h4⟩
theorem kcs : eqD false (.str "corner") (.str "swing") = some (.d (.bool false)) := by
  show some (Res.d (.bool (decide (V.str "corner" = V.str "swing")))) = _
  rw [decide_eq_false fun h => by injection h with h; exact absurd h (by decide +kernel)]
theorem kss : eqD false (.str "swing") (.str "swing") = some (.d (.bool true)) := by
  show some (Res.d (.bool (decide (V.str "swing" = V.str "swing")))) = _
  rw [decide_eq_true rfl]
def clEnd : Ms := (mFrz 9 (mSeq (mSetO 10 (mLc (mSrc (mVar 9)) (tgN 11) mYes (m2 addD (mSl (mVar 3) none (some (mC (.int 3)))) (mVar 11)) [11]))
  (mFrz 10 (mSeq (mIf (mtst (m2 (eqD false) (m2 ixD (mVar 3) (mC (.int 0))) (mC (.str "swing"))))
    (mSet 10 (m2 addD (mVar 10) (mLc (mSrc (mVar 10)) (tgN 12) mYes (mTup [(mC (.str "swing")), (m2 ixD (mVar 3) (mC (.int 2))), (m2 ixD (mVar 3) (mC (.int 1))), (m2 subD (mC (.int 0)) (m2 ixD (mVar 12) (mC (.int 4)))), (m2 subD (mC (.int 0)) (m2 ixD (mVar 12) (mC (.int 3))))]) [12])))
    mNil)
  (mRet (mVar 10))))))
def ClQ (W : Web) (od : Dart) (C : List (List Bd)) (L : List (Int × Int × Int)) (o0 : Ob) : Out → Prop := fun u => ∃ (o' : Ob) (R : List Cl) (ρ' : G.Env), u = .rt (.list (R.map cD5)) ρ' ∧ parsBack [.par 0 o0, .dat (webD W od), .dat (rulD C L)] ρ' = some [.par 0 o', .dat (webD W od), .dat (rulD C L)] ∧ GoodP o' ∧ ∀ c ∈ R, ClW W c
theorem cl_end {W : Web} (hW : GoodW W) (od : Dart) {C : List (List Bd)} {L : List (Int × Int × Int)} {o o0 : Ob} (hg : GoodP o) {kind a b : Str} {x y : Int} (hd : (a, b) ∈ darts W) (hk : kind = "corner" ∨ kind = "swing") (fi la le mo mi : Int) (ends : List Bd) (hl : ends.length ≤ 10) :
    WS clEnd [.par 0 o, .dat (webD W od), .dat (rulD C L), .dat (clD kind a b x y), .dat (.int fi), .dat (.int la), .dat (.int le), .dat (.int mo), .dat (.int mi), .own (.lst (ends.map bD)), .non, .non, .non] (ClQ W od C L o0) := by
  unfold clEnd
  refine WS_frz ⟨_, .list (ends.map bD), rfl, rfl, ?_⟩
  show WS _ [.par 0 o, .dat (webD W od), .dat (rulD C L), .dat (clD kind a b x y), .dat (.int fi), .dat (.int la), .dat (.int le), .dat (.int mo), .dat (.int mi), .dat (.list (ends.map bD)), .non, .non, .non] _
  refine WS_seq (WS_setO (E_lc bD (fun p => some (cD5 (kind, a, b, p.1, p.2))) (E_src (.keep (a := .d (.list (ends.map bD))) rfl ⟨_, .inl rfl, ends, rfl, ?_, ?_, ?_, ?_⟩))))
  · intro p hp
    refine ⟨_, rfl, .keep (a := true) rfl ?_⟩
    rw [if_pos rfl]
    exact (ev_m2 (a := .tuple [.str kind, .str a, .str b]) (b := bD p) (ev_sl (p := none) (q := some 3) ⟨_, rfl, rfl⟩ part_none rfl (by rfl)).r ⟨_, rfl, rfl⟩ (v := cD5 (kind, a, b, p.1, p.2)) (add_tup (by show 5 ≤ 2000; decide))).kp ⟨_, rfl, rfl, rfl⟩
  · exact Nat.lt_of_le_of_lt hl (by decide)
  · intro v hv
    rw [List.mem_singleton.mp hv]
    exact .inl rfl
  have e1 : (ends.filterMap fun p => some (cD5 (kind, a, b, p.1, p.2))) = (ends.map fun p => ((kind, a, b, p.1, p.2) : Cl)).map cD5 := by
    rw [List.filterMap_eq_map', List.map_map]
    rfl
  rw [e1]
  have hR0 : ∀ c ∈ ends.map fun p => ((kind, a, b, p.1, p.2) : Cl), ClW W c := fun c hc => by
    obtain ⟨p, _, rfl⟩ := List.mem_map.mp hc
    exact ⟨hd, hk⟩
  have hl0 : (ends.map fun p => ((kind, a, b, p.1, p.2) : Cl)).length ≤ 10 := by
    rw [List.length_map]
    exact hl
  generalize (ends.map fun p => ((kind, a, b, p.1, p.2) : Cl)) = R0 at hR0 hl0 ⊢
  refine ⟨_, rfl, ?_⟩
  refine WS_frz ⟨.lst (R0.map cD5), .list (R0.map cD5), rfl, rfl, ?_⟩
  show WS _ [.par 0 o, .dat (webD W od), .dat (rulD C L), .dat (clD kind a b x y), .dat (.int fi), .dat (.int la), .dat (.int le), .dat (.int mo), .dat (.int mi), .dat (.list (ends.map bD)), .dat (.list (R0.map cD5)), .non, .non] _
  rcases hk with rfl | rfl
  · refine WS_seq (ws_if (tst_m2 (a := .str "corner") ⟨_, rfl, rfl⟩ ⟨_, rfl, rfl⟩ kcs) ?_)
    rw [if_neg (by decide)]
    exact ws_nil (ws_ret rfl ⟨o, R0, _, rfl, rfl, hg, hR0⟩)
  · refine WS_seq (ws_if (tst_m2 (a := .str "swing") ⟨_, rfl, rfl⟩ ⟨_, rfl, rfl⟩ kss) ?_)
    rw [if_pos rfl]
    refine WS_set (E_fz (E_m2 (.keep (a := .d (.list (R0.map cD5))) rfl (E_fz (E_lc cD5 (fun c => some (cD5 ("swing", b, a, 0 - c.2.2.2.2, 0 - c.2.2.2.1))) (E_src (.keep (a := .d (.list (R0.map cD5))) rfl ⟨_, .inl rfl, R0, rfl, ?_, ?_, ?_, ?_⟩)))))))
    · intro c hc
      refine ⟨_, rfl, .keep (a := true) rfl ?_⟩
      rw [if_pos rfl]
      exact .keep (a := .d (cD5 ("swing", b, a, 0 - c.2.2.2.2, 0 - c.2.2.2.1))) rfl ⟨_, rfl, rfl, rfl⟩
    · exact Nat.lt_of_le_of_lt hl0 (by decide)
    · intro v hv
      rw [List.mem_singleton.mp hv]
      exact .inl rfl
    have e2 : (R0.filterMap fun c => some (cD5 ("swing", b, a, 0 - c.2.2.2.2, 0 - c.2.2.2.1))) = (R0.map fun c => (("swing", b, a, 0 - c.2.2.2.2, 0 - c.2.2.2.1) : Cl)).map cD5 := by
      rw [List.filterMap_eq_map', List.map_map]
      rfl
    rw [e2]
    have hadd : addD (.list (R0.map cD5)) (.list ((R0.map fun c => (("swing", b, a, 0 - c.2.2.2.2, 0 - c.2.2.2.1) : Cl)).map cD5)) = some (.l ((R0 ++ R0.map fun c => (("swing", b, a, 0 - c.2.2.2.2, 0 - c.2.2.2.1) : Cl)).map cD5)) := by
      show (if _ then some (Res.l _) else none) = _
      rw [if_pos, List.map_append]
      rw [List.length_map, List.length_map, List.length_map]
      exact Nat.lt_of_le_of_lt (show _ ≤ 20 by omega) (by decide)
    refine ⟨_, rfl, _, _, _, rfl, rfl, hadd, ⟨_, rfl, _, rfl, ?_⟩⟩
    refine ws_ret rfl ⟨o, _, _, rfl, rfl, hg, fun c hc => ?_⟩
    rcases List.mem_append.mp hc with z | z
    · exact hR0 c z
    · obtain ⟨c', _, rfl⟩ := List.mem_map.mp z
      exact ⟨dart_back hW hd, .inr rfl⟩
theorem claims_ok {W : Web} (hW : GoodW W) (od : Dart) {C : List (List Bd)} {L : List (Int × Int × Int)} (hR : GoodQ W C L) {o : Ob} (hg : GoodP o) :
    ∃ (o' : Ob) (R : List Cl), m_law_claims [.par 0 o, .dat (webD W od), .dat (rulD C L)] = some (.dt (.list (R.map cD5)), [.par 0 o', .dat (webD W od), .dat (rulD C L)]) ∧ GoodP o' ∧ ∀ c ∈ R, ClW W c := by
  have key : ∃ f r, m_law_claims [.par 0 o, .dat (webD W od), .dat (rulD C L)] = some (f, r) ∧ ∃ (o' : Ob) (R : List Cl), f = .dt (.list (R.map cD5)) ∧ r = [.par 0 o', .dat (webD W od), .dat (rulD C L)] ∧ GoodP o' ∧ ∀ c ∈ R, ClW W c := by
    refine fn_of (WS.mono (Q := ClQ W od C L o) ?_ fun u ⟨o', R, ρ', e, h1, h2, h3⟩ => by subst e; exact ⟨_, h1, o', R, rfl, rfl, h2, h3⟩)
    show WS b_law_claims [.par 0 o, .dat (webD W od), .dat (rulD C L), .non, .non, .non, .non, .non, .non, .non, .non, .non, .non] _
    obtain ⟨o1, kind, a, b, x, y, hc, hg1, hd, hk⟩ := claim_ok hW od hg
    obtain ⟨p, N, hN, hp⟩ := clok hW od hR hd hk
    refine WS_seq (WS_set (E_fz (E_callP (i := 0) (as := [.d (webD W od)]) (ds := [webD W od]) (.inr ⟨0, rfl⟩) rfl rfl hc (.inl ⟨_, rfl, rfl⟩) ⟨_, rfl, _, rfl, ?_⟩)))
    refine WS_seq (ws_asg (ev_call (ds := [webD W od, rulD C L, clD kind a b x y]) rfl (hN x y).rng).r rfl ?_)
    have b1 := (hN x y).lo
    have b2 := (hN x y).hi
    show WS _ [.par 0 o1, .dat (webD W od), .dat (rulD C L), .dat (clD kind a b x y), .dat (.int p.1), .dat (.int p.2), .non, .non, .non, .non, .non, .non, .non] _
    generalize p.1 = fi at hp b1 ⊢
    generalize p.2 = la at hp b2 ⊢
    have s3 : ∃ le mo : Int, Ev (m2 ixD (mLst [(mTup [(mC (.int 1)), (mC (.int 4))]), (mTup [(m1 negD (mC (.int 30))), (mC (.int 30))])]) (mN intD [(m2 (eqD false) (m2 ixD (mVar 3) (mC (.int 0))) (mC (.str "swing")))])) [.par 0 o1, .dat (webD W od), .dat (rulD C L), .dat (clD kind a b x y), .dat (.int fi), .dat (.int la), .non, .non, .non, .non, .non, .non, .non] (bD (le, mo)) := by
      rcases hk with rfl | rfl
      · exact ⟨1, 4, ev_m2 (ev_lst (ds := [bD (1, 4), bD (-30, 30)]) rfl).r (ev_n1 (a := .bool false) (v := .int 0) (ev_m2 (a := .str "corner") ⟨_, rfl, rfl⟩ ⟨_, rfl, rfl⟩ kcs).r rfl).r rfl⟩
      · exact ⟨-30, 30, ev_m2 (ev_lst (ds := [bD (1, 4), bD (-30, 30)]) rfl).r (ev_n1 (a := .bool true) (v := .int 1) (ev_m2 (a := .str "swing") ⟨_, rfl, rfl⟩ ⟨_, rfl, rfl⟩ kss).r rfl).r rfl⟩
    obtain ⟨le, mo, s3⟩ := s3
    refine WS_seq (ws_asg s3.r rfl ?_)
    refine WS_seq (WS_set (E_fz (E_m2 (.keep (a := .d (.int fi)) rfl (E_takeF (la - fi + 1) (.inr ⟨0, rfl⟩) hg1 rfl (by omega) (by omega) fun e o2 e0 e1 hg2 => ⟨_, _, .d (.int (fi + e)), rfl, rfl, rfl, ⟨_, rfl, _, rfl, ?_⟩⟩)))))
    generalize fi + e = mi
    show WS _ [.par 0 o2, .dat (webD W od), .dat (rulD C L), .dat (clD kind a b x y), .dat (.int fi), .dat (.int la), .dat (.int le), .dat (.int mo), .dat (.int mi), .non, .non, .non, .non] _
    refine WS_seq (ws_setO (o := .lst ([(fi, la), (le, mo), (fi, fi), (la, la), (mi, mi), (le, mi), (mi, mo), (x, y)].map bD)) (lst_val (ds := [(fi, la), (le, mo), (fi, fi), (la, la), (mi, mi), (le, mi), (mi, mo), (x, y)].map bD) (as_cons rfl (as_cons rfl (as_cons rfl (as_cons rfl (as_cons rfl (as_cons rfl (as_cons rfl (as_cons (ev_sl (p := some 3) (q := none) ⟨_, rfl, rfl⟩ rfl part_none (by rfl)) as_nil))))))))) ?_)
    have hlen : [(fi, la), (le, mo), (fi, fi), (la, la), (mi, mi), (le, mi), (mi, mo), (x, y)].length ≤ 8 := Nat.le_refl 8
    generalize [(fi, la), (le, mo), (fi, fi), (la, la), (mi, mi), (le, mi), (mi, mo), (x, y)] = ends at hlen ⊢
    have fin : ∀ ends : List Bd, ends.length ≤ 10 → WS clEnd [.par 0 o2, .dat (webD W od), .dat (rulD C L), .dat (clD kind a b x y), .dat (.int fi), .dat (.int la), .dat (.int le), .dat (.int mo), .dat (.int mi), .own (.lst (ends.map bD)), .non, .non, .non] (ClQ W od C L o) := fun ends hl => cl_end hW od hg2 hd hk fi la le mo mi ends hl
    have st2 : ∀ ends : List Bd, ends.length ≤ 9 → WS (mSeq (mIf (mtst (m2 (lt2 false) (mVar 5) (mVar 7)))
    (mExp (mMeth "list" obAppend 9 [(mTup [(m2 addD (mVar 5) (mC (.int 1))), (mVar 7)])]))
    mNil) clEnd) [.par 0 o2, .dat (webD W od), .dat (rulD C L), .dat (clD kind a b x y), .dat (.int fi), .dat (.int la), .dat (.int le), .dat (.int mo), .dat (.int mi), .own (.lst (ends.map bD)), .non, .non, .non] (ClQ W od C L o) := fun ends hl => by
      refine WS_seq (ws_if (u := decide (la < mo)) rfl ?_)
      split
      · refine ws_append (l := ends.map bD) (d := bD (la + 1, mo)) rfl rfl (by rw [List.length_map]; exact Nat.lt_of_le_of_lt hl (by decide)) ?_
        have := fin (ends ++ [(la + 1, mo)]) (by rw [List.length_append, List.length_singleton]; omega)
        rw [List.map_append] at this
        exact this
      · exact ws_nil (fin ends (by omega))
    refine WS_seq (ws_if (u := decide (le < fi)) rfl ?_)
    split
    · refine ws_append (l := ends.map bD) (d := bD (le, fi - 1)) rfl rfl (by rw [List.length_map]; exact Nat.lt_of_le_of_lt hlen (by decide)) ?_
      have := st2 (ends ++ [(le, fi - 1)]) (by rw [List.length_append, List.length_singleton]; omega)
      rw [List.map_append] at this
      exact this
    · exact ws_nil (st2 ends (by omega))
  obtain ⟨f, r, h, o', R, rfl, rfl, h1, h2⟩ := key
  exact ⟨o', R, h, h1, h2⟩
end K28
/-! k28 in plain Lean: _law_turned -/
namespace K28
open PySem hiding Env
open PySem.W PyProof.Rows L2 HD G
/-- five counts, none below c -/
def Ge (c : Int) (sn : List Int) : Prop := sn.length = 5 ∧ ∀ v ∈ sn, c ≤ v
theorem Ge.bump {c : Int} {sn : List Int} (h : Ge c sn) (n : Nat) : Ge c (bump sn n) := by
  refine ⟨by rw [bump_len]; exact h.1, fun v hv => ?_⟩
  unfold K28.bump at hv
  by_cases hn : n < sn.length
  · rcases List.mem_or_eq_of_mem_set hv with z | rfl
    · exact h.2 v z
    · rw [List.getElem?_eq_getElem hn]
      have := h.2 _ (List.getElem_mem hn)
      show c ≤ sn[n] + 1
      omega
  · rw [List.set_eq_of_length_le (by omega)] at hv
    exact h.2 v hv
theorem Ge.mono {c : Int} {sn : List Int} (h : Ge c sn) {d : Int} (hd : d ≤ c) : Ge d sn := ⟨h.1, fun v hv => Int.le_trans hd (h.2 v hv)⟩
def asN (x y : Int) (p : Bd) (sn : List Int) : List Int := bump (bump sn (kpN x y p)) (2 + dnN x y p)
theorem tst_asked {wd rd : PyData} {kind a b : Str} {x y : Int} {p : Bd} {N : Int → Int → PyData} (h : ClOk wd rd kind a b x y p N) {m : Int} (hw : nice wd = true) (hs : sz wd ≤ 4000) {sn : List Int} (hl : sn.length = 5) {ρ : G.Env} {i : Nat} {mq mc : Mi Val}
    (hq : Ev mq ρ (askD wd rd m)) (hc : Ev mc ρ (clD kind a b x y)) (hi : ρ[i]? = some (.own (.lst (sn.map PyData.int))) ∨ ∃ k, ρ[i]? = some (.par k (.lst (sn.map PyData.int)))) : mtst (mCall m_law_asked [mq, mc, mVar i]) ρ = some (true, setOb ρ i (.lst ((asN x y p sn).map PyData.int))) := by
  have ev : fz (mVar i) ρ = some (.b i, ρ) ∧ slotOb ρ i = some (.lst (sn.map PyData.int)) := by
    unfold fz mVar slotOb
    rcases hi with h | ⟨k, h⟩ <;> rw [h] <;> exact ⟨rfl, rfl⟩
  obtain ⟨v, ρ', e1, rfl, rfl⟩ := E_call (mf := m_law_asked) (ms := [mq, mc, mVar i]) (ρ := ρ) (Q := fun v ρ' => v = .d (.bool true) ∧ ρ' = setOb ρ i (.lst ((asN x y p sn).map PyData.int)))
    (E_cons (hq.kp (E_cons (hc.kp (E_cons (.keep ev.1 (E_nil ⟨(by show [i].Nodup; simp), [.dat (askD wd rd m), .dat (clD kind a b x y), .par 0 (.lst (sn.map PyData.int))], (by
      show ((((slotOb ρ i).bind fun o => (some ([] : G.Env)).map fun r => Sl.par 0 o :: r).map fun r => Sl.dat (clD kind a b x y) :: r).map fun r => Sl.dat (askD wd rd m) :: r) = _
      rw [ev.2]
      rfl), _, _, .d (.bool true), _, asked_ok h m hw hs hl, rfl, rfl, rfl, rfl⟩)))))))
  unfold mtst
  rw [e1]
  rfl
theorem not_of2 {c : Mi Bool} {ρ ρ' : G.Env} {t : Bool} (h : c ρ = some (t, ρ')) : mNot c ρ = some (!t, ρ') := by
  unfold mNot
  rw [h]
  rfl
theorem or_of {a b : Mi Bool} {ρ ρ1 : G.Env} {r : Option (Bool × G.Env)} (h1 : a ρ = some (false, ρ1)) (h2 : b ρ1 = r) : mOr a b ρ = r := by
  unfold mOr
  rw [h1]
  exact h2
theorem first_link {W : Web} (hW : GoodW W) : ∃ d rest, links W = d :: rest ∧ d ∈ darts W ∧ ltS d.1 d.2 = true ∧ lplc W d.1 d.2 = 0 ∧ lplc W d.2 d.1 = 0 := by
  have ne : links W ≠ [] := fun z => by
    have h2 := hW.two
    obtain ⟨p, W', e⟩ := List.exists_cons_of_ne_nil (l := W) (fun z => by rw [z] at h2; simp at h2)
    have hm : (p.1, p.2) ∈ W := by rw [e]; exact List.mem_cons_self ..
    obtain ⟨b, r', e2⟩ := List.exists_cons_of_ne_nil (hW.row _ _ hm).2.1
    have := (lnk_mem hW (a := p.1) (b := b) (mem_darts.mpr ⟨p.2, hm, by rw [e2]; exact List.mem_cons_self ..⟩)).2
    rw [z] at this
    cases this
  obtain ⟨d, rest, e⟩ := List.exists_cons_of_ne_nil ne
  obtain ⟨h1, h2⟩ := (mem_links hW).mp (by rw [e]; exact List.mem_cons_self ..)
  refine ⟨d, rest, e, h1, h2, ?_, ?_⟩
  · unfold lplc
    rw [lnk_fst h2, e]
    exact List.idxOf_cons_self
  · unfold lplc
    rw [lnk_snd (by rw [ltS_asymm h2]; decide), e]
    exact List.idxOf_cons_self
def six : List Bd := [(0, 0), (-2, 1), (-2, 2), (3, 30), (-30, -1), (2, 2)]
def sixN (sn : List Int) (q : Bd) : List Int := asN q.1 q.2 (-2, 2) (asN q.1 q.2 (-2, 2) sn)
theorem six_len {sn : List Int} : (six.foldl sixN sn).length = sn.length := by
  have : ∀ (l : List Bd) (sn : List Int), (l.foldl sixN sn).length = sn.length := fun l => by
    induction l with
    | nil => exact fun sn => rfl
    | cons q l ih =>
      intro sn
      rw [List.foldl_cons, ih]
      unfold sixN asN
      rw [bump_len, bump_len, bump_len, bump_len]
  exact this six sn
theorem six_ge {sn : List Int} (h : Ge 0 sn) : Ge 1 (six.foldl sixN sn) := by
  match sn, h with
  | [a, b, c, d, e], h =>
    have ha := h.2 a (by simp)
    have hb := h.2 b (by simp)
    have hc := h.2 c (by simp)
    have hd := h.2 d (by simp)
    have he := h.2 e (by simp)
    refine ⟨by rw [six_len]; rfl, fun v hv => ?_⟩
    have e1 : ∀ a b c d e : Int, sixN [a, b, c, d, e] (0, 0) = [a, b + 1 + 1, c, d, e + 1 + 1] := fun _ _ _ _ _ => rfl
    have e2 : ∀ a b c d e : Int, sixN [a, b, c, d, e] (-2, 1) = [a, b + 1 + 1, c, d + 1 + 1, e] := fun _ _ _ _ _ => rfl
    have e3 : ∀ a b c d e : Int, sixN [a, b, c, d, e] (-2, 2) = [a, b + 1 + 1, c + 1 + 1, d, e] := fun _ _ _ _ _ => rfl
    have e4 : ∀ a b c d e : Int, sixN [a, b, c, d, e] (3, 30) = [a + 1 + 1, b, c, d + 1 + 1, e] := fun _ _ _ _ _ => rfl
    have e5 : ∀ a b c d e : Int, sixN [a, b, c, d, e] (-30, -1) = [a, b + 1 + 1, c, d + 1 + 1, e] := fun _ _ _ _ _ => rfl
    have e6 : ∀ a b c d e : Int, sixN [a, b, c, d, e] (2, 2) = [a, b + 1 + 1, c, d + 1 + 1, e] := fun _ _ _ _ _ => rfl
    unfold six at hv
    rw [List.foldl_cons, List.foldl_cons, List.foldl_cons, List.foldl_cons, List.foldl_cons, List.foldl_cons, List.foldl_nil, e1, e2, e3, e4, e5, e6] at hv
    simp only [List.mem_cons, List.not_mem_nil, or_false] at hv
    omega
  | [], h => exact absurd h.1 (by simp)
  | [_], h => exact absurd h.1 (by simp)
  | [_, _], h => exact absurd h.1 (by simp)
  | [_, _, _], h => exact absurd h.1 (by simp)
  | [_, _, _, _], h => exact absurd h.1 (by simp)
  | _ :: _ :: _ :: _ :: _ :: _ :: _, h => exact absurd h.1 (by simp)
theorem lnk0 {W : Web} {d : Dart} {rest : List Dart} (h : links W = d :: rest) : ixD (.list ((links W).map sD)) (.int 0) = some (.d (sD d)) := by
  rw [h]
  exact ixD_list (n := 0) rfl
theorem turned_ok {W : Web} (hW : GoodW W) {od : Dart} (hod : od ∈ darts W) {C : List (List Bd)} {L0 : List (Int × Int × Int)} (hR : GoodR W C L0) (m : Int) {sn : List Int} (hs : Ge 0 sn) :
    ∃ sn', m_law_turned [.dat (askD (webD W od) (rulD C L0) m), .par 0 (.lst (sn.map PyData.int))] = some (.dt (.bool true), [.dat (askD (webD W od) (rulD C L0) m), .par 0 (.lst (sn'.map PyData.int))]) ∧ Ge 1 sn' := by
  obtain ⟨d, rest, hl, hd, hlt, hp1, hp2⟩ := first_link hW
  obtain ⟨t, L, rfl⟩ : ∃ t L, L0 = t :: L := by
    have := hR.ll
    rw [hl] at this
    exact List.exists_cons_of_ne_nil fun z => by rw [z] at this; simp at this
  have hback := dart_back hW (a := d.1) (b := d.2) hd
  obtain ⟨nw, sw⟩ := web_ok hW hod
  have hR' : GoodR W C ((-2, 2, t.2.2) :: L) := ⟨hR.cl, hR.cr, hR.cb, hR.ll, fun u hu => by
    rcases List.mem_cons.mp hu with rfl | z
    · exact ⟨show (-30 : Int) ≤ -2 by decide, show (2 : Int) ≤ 30 by decide⟩
    · exact hR.lb u (List.mem_cons_of_mem _ z)⟩
  have k1 := clok_s hW od hR' hd (t := (-2, 2, t.2.2)) (by rw [hp1]; rfl)
  have k2 := clok_s hW od hR' hback (t := (-2, 2, t.2.2)) (by rw [hp2]; rfl)
  have s1 : seen d.1 d.2 (-2, 2, t.2.2) = (-2, 2) := if_pos hlt
  have hnlt : ¬ltS d.2 d.1 = true := by rw [ltS_asymm hlt]; decide
  have s2 : seen d.2 d.1 (-2, 2, t.2.2) = (-2, 2) := if_neg hnlt
  rw [s1] at k1
  rw [s2] at k2
  have hL160 : L.length < 160 := by
    have h1 := hR.ll
    have h2 := hW.llen
    rw [List.length_cons] at h1
    omega
  have key : ∃ f r, m_law_turned [.dat (askD (webD W od) (rulD C (t :: L)) m), .par 0 (.lst (sn.map PyData.int))] = some (f, r) ∧ f = .dt (.bool true) ∧ r = [.dat (askD (webD W od) (rulD C (t :: L)) m), .par 0 (.lst ((six.foldl sixN sn).map PyData.int))] := by
    refine fn_of ?_
    show WS b_law_turned [.dat (askD (webD W od) (rulD C (t :: L)) m), .par 0 (.lst (sn.map PyData.int)), .non, .non, .non, .non, .non, .non, .non, .non, .non, .non, .non, .non] _
    refine WS_seq (ws_asg ⟨_, rfl, rfl⟩ rfl ?_)
    refine WS_seq (ws_asg (ev_m2 (ev_call (ds := [webD W od]) rfl (law_links_ok hW od)).r ⟨_, rfl, rfl⟩ (lnk0 hl)).r rfl ?_)
    refine WS_seq (ws_asg ⟨_, rfl, rfl⟩ rfl ?_)
    show WS _ [.dat (askD (webD W od) (rulD C (t :: L)) m), .par 0 (.lst (sn.map PyData.int)), .dat (webD W od), .dat (rulD C (t :: L)), .dat (.int m), .dat (.str d.1), .dat (.str d.2), .dat (.tuple (C.map rwD)), .dat (.tuple ((t :: L).map tD)), .non, .non, .non, .non, .non] _
    have hcut : G.cutD ((t :: L).map tD) (some 1) none = L.map tD := cutp_lo (l := (t :: L).map tD) (n := 1) (by simp)
    have hsl : ∀ s9 s10 s11 s12 s13 (sn : List Int), Ev (mSl (mVar 8) (some (mC (.int 1))) none) [.dat (askD (webD W od) (rulD C (t :: L)) m), .par 0 (.lst (sn.map PyData.int)), .dat (webD W od), .dat (rulD C (t :: L)), .dat (.int m), .dat (.str d.1), .dat (.str d.2), .dat (.tuple (C.map rwD)), .dat (.tuple ((t :: L).map tD)), s9, s10, s11, s12, s13] (.tuple (L.map tD)) := fun s9 s10 s11 s12 s13 sn => ev_sl (p := some 1) (q := none) (d := .tuple ((t :: L).map tD)) ⟨_, rfl, rfl⟩ rfl part_none (by
      show some (Res.d (.tuple (G.cutD ((t :: L).map tD) (some 1) none))) = _
      rw [hcut])
    have hpr : ∀ s9 s10 s11 s12 s13 (sn : List Int), Ev (m2 ixD (m2 ixD (mVar 8) (mC (.int 0))) (mC (.int 2))) [.dat (askD (webD W od) (rulD C (t :: L)) m), .par 0 (.lst (sn.map PyData.int)), .dat (webD W od), .dat (rulD C (t :: L)), .dat (.int m), .dat (.str d.1), .dat (.str d.2), .dat (.tuple (C.map rwD)), .dat (.tuple ((t :: L).map tD)), s9, s10, s11, s12, s13] (.int t.2.2) := fun s9 s10 s11 s12 s13 sn => ev_m2 (ev_m2 (a := .tuple ((t :: L).map tD)) (v := tD t) ⟨_, rfl, rfl⟩ ⟨_, rfl, rfl⟩ (ixD_tup (n := 0) rfl)).r ⟨_, rfl, rfl⟩ rfl
    have hrul : ∀ (lo hi : Int) (mlo mhi : Mi Val) s9 s10 s11 s12 s13 (sn : List Int), Ev mlo [.dat (askD (webD W od) (rulD C (t :: L)) m), .par 0 (.lst (sn.map PyData.int)), .dat (webD W od), .dat (rulD C (t :: L)), .dat (.int m), .dat (.str d.1), .dat (.str d.2), .dat (.tuple (C.map rwD)), .dat (.tuple ((t :: L).map tD)), s9, s10, s11, s12, s13] (.int lo) → Ev mhi [.dat (askD (webD W od) (rulD C (t :: L)) m), .par 0 (.lst (sn.map PyData.int)), .dat (webD W od), .dat (rulD C (t :: L)), .dat (.int m), .dat (.str d.1), .dat (.str d.2), .dat (.tuple (C.map rwD)), .dat (.tuple ((t :: L).map tD)), s9, s10, s11, s12, s13] (.int hi) →
        Ev (mTup [(mVar 7), (m2 addD (mTup [(mTup [mlo, mhi, (m2 ixD (m2 ixD (mVar 8) (mC (.int 0))) (mC (.int 2)))])]) (mSl (mVar 8) (some (mC (.int 1))) none))]) [.dat (askD (webD W od) (rulD C (t :: L)) m), .par 0 (.lst (sn.map PyData.int)), .dat (webD W od), .dat (rulD C (t :: L)), .dat (.int m), .dat (.str d.1), .dat (.str d.2), .dat (.tuple (C.map rwD)), .dat (.tuple ((t :: L).map tD)), s9, s10, s11, s12, s13] (rulD C ((lo, hi, t.2.2) :: L)) := fun lo hi mlo mhi s9 s10 s11 s12 s13 sn h1 h2 =>
      ev_tup (ds := [.tuple (C.map rwD), .tuple (((lo, hi, t.2.2) :: L).map tD)]) (as_cons rfl (as_cons (ev_m2 (ev_tup (ds := [tD (lo, hi, t.2.2)]) (as_cons (ev_tup (ds := [.int lo, .int hi, .int t.2.2]) (as_cons h1 (as_cons h2 (as_cons (hpr _ _ _ _ _ _) as_nil)))) as_nil)).r (hsl _ _ _ _ _ _).r (add_tup (by rw [List.length_singleton, List.length_map]; omega))) as_nil))
    refine WS_seq (ws_set (ev_tup (ds := [webD W od, rulD C ((-2, 2, t.2.2) :: L), .int m]) (as_cons rfl (as_cons (hrul (-2) 2 _ _ _ _ _ _ _ _ rfl rfl) (as_cons rfl as_nil)))) ?_)
    show WS _ [.dat (askD (webD W od) (rulD C (t :: L)) m), .par 0 (.lst (sn.map PyData.int)), .dat (webD W od), .dat (rulD C (t :: L)), .dat (.int m), .dat (.str d.1), .dat (.str d.2), .dat (.tuple (C.map rwD)), .dat (.tuple ((t :: L).map tD)), .dat (askD (webD W od) (rulD C ((-2, 2, t.2.2) :: L)) m), .non, .non, .non, .non] _
    refine WS_seq (WS_for (E_src (.keep (a := .d (.tuple (six.map bD))) rfl ⟨six.map bD, .inr rfl, fun i ρ => ∃ s10 s11, ρ = [.dat (askD (webD W od) (rulD C (t :: L)) m), .par 0 (.lst (((six.take i).foldl sixN sn).map PyData.int)), .dat (webD W od), .dat (rulD C (t :: L)), .dat (.int m), .dat (.str d.1), .dat (.str d.2), .dat (.tuple (C.map rwD)), .dat (.tuple ((t :: L).map tD)), .dat (askD (webD W od) (rulD C ((-2, 2, t.2.2) :: L)) m), s10, s11, .non, .non], ⟨_, _, rfl⟩, ?_, ?_⟩)))
    · rintro i z ρ hz ⟨s10, s11, rfl⟩
      rw [List.getElem?_map] at hz
      obtain ⟨q, hq, rfl⟩ := Option.map_eq_some_iff.mp hz
      obtain ⟨hi, hq2⟩ := List.getElem?_eq_some_iff.mp hq
      have e : (six.take (i + 1)).foldl sixN sn = sixN ((six.take i).foldl sixN sn) q := by
        rw [List.take_succ_eq_append_getElem hi, List.foldl_append, hq2]
        rfl
      have hge : Ge 0 ((six.take i).foldl sixN sn) := by
        generalize six.take i = l
        clear e hz hq hq2
        have : ∀ (l : List Bd) (sn : List Int), Ge 0 sn → Ge 0 (l.foldl sixN sn) := fun l => by
          induction l with
          | nil => exact fun sn h => h
          | cons q l ih =>
            intro sn h
            rw [List.foldl_cons]
            exact ih _ ((((h.bump _).bump _).bump _).bump _)
        exact this l sn hs
      obtain ⟨sn1, hsn1⟩ : ∃ sn1, sn1 = (six.take i).foldl sixN sn := ⟨_, rfl⟩
      rw [← hsn1] at e hge ⊢
      refine ⟨_, rfl, ?_⟩
      show WS _ [.dat (askD (webD W od) (rulD C (t :: L)) m), .par 0 (.lst (sn1.map PyData.int)), .dat (webD W od), .dat (rulD C (t :: L)), .dat (.int m), .dat (.str d.1), .dat (.str d.2), .dat (.tuple (C.map rwD)), .dat (.tuple ((t :: L).map tD)), .dat (askD (webD W od) (rulD C ((-2, 2, t.2.2) :: L)) m), .dat (.int q.1), .dat (.int q.2), .non, .non] _
      have a1 := tst_asked (k1 q.1 q.2) (m := m) nw sw hge.1 (ρ := [.dat (askD (webD W od) (rulD C (t :: L)) m), .par 0 (.lst (sn1.map PyData.int)), .dat (webD W od), .dat (rulD C (t :: L)), .dat (.int m), .dat (.str d.1), .dat (.str d.2), .dat (.tuple (C.map rwD)), .dat (.tuple ((t :: L).map tD)), .dat (askD (webD W od) (rulD C ((-2, 2, t.2.2) :: L)) m), .dat (.int q.1), .dat (.int q.2), .non, .non]) (i := 1) (mq := mVar 9) (mc := mTup [(mC (.str "swing")), (mVar 5), (mVar 6), (mVar 10), (mVar 11)]) rfl rfl (.inr ⟨0, rfl⟩)
      have a2 := tst_asked (k2 q.1 q.2) (m := m) nw sw (sn := asN q.1 q.2 (-2, 2) sn1) (by unfold asN; rw [bump_len, bump_len]; exact hge.1) (ρ := [.dat (askD (webD W od) (rulD C (t :: L)) m), .par 0 (.lst ((asN q.1 q.2 (-2, 2) sn1).map PyData.int)), .dat (webD W od), .dat (rulD C (t :: L)), .dat (.int m), .dat (.str d.1), .dat (.str d.2), .dat (.tuple (C.map rwD)), .dat (.tuple ((t :: L).map tD)), .dat (askD (webD W od) (rulD C ((-2, 2, t.2.2) :: L)) m), .dat (.int q.1), .dat (.int q.2), .non, .non]) (i := 1) (mq := mVar 9) (mc := mTup [(mC (.str "swing")), (mVar 6), (mVar 5), (mVar 10), (mVar 11)]) rfl rfl (.inr ⟨0, rfl⟩)
      refine ws_if (or_of (not_of2 a1) (not_of2 a2)) ?_
      rw [if_neg (by decide)]
      refine ws_nil ⟨.dat (.int q.1), .dat (.int q.2), ?_⟩
      rw [e]
      rfl
    · rintro ρ ⟨s10, s11, rfl⟩
      have h6 : six.take (six.map bD).length = six := rfl
      rw [h6]
      generalize six.foldl sixN sn = sn2
      have dn := denial_cases_ok (m := m) (k2 0 1).prg
      have en : kept (webD W od) m [sNar C ((-2, 2, t.2.2) :: L) (lplc W d.2 d.1) d.2 d.1 (-2, 2, t.2.2) (max (-30) (-2)) (min (0 - 1) 2), sNar C ((-2, 2, t.2.2) :: L) (lplc W d.2 d.1) d.2 d.1 (-2, 2, t.2.2) (max (1 + 1) (-2)) (min 30 2)] = [askD (webD W od) (rulD C ((1, 2, t.2.2) :: L)) m, askD (webD W od) (rulD C ((-2, -2, t.2.2) :: L)) m] := by
        have n1 : newT d.2 d.1 (-2) (-1) (-2, 2, t.2.2) = (1, 2, t.2.2) := if_neg hnlt
        have n2 : newT d.2 d.1 2 2 (-2, 2, t.2.2) = (-2, -2, t.2.2) := if_neg hnlt
        have m1 : sNar C ((-2, 2, t.2.2) :: L) (lplc W d.2 d.1) d.2 d.1 (-2, 2, t.2.2) (max (-30) (-2)) (min (0 - 1) 2) = rulD C ((1, 2, t.2.2) :: L) := by
          rw [hp2]
          show (if (-1 : Int) < -2 then PyData.none else rulD C (newT d.2 d.1 (-2) (-1) (-2, 2, t.2.2) :: L)) = _
          rw [if_neg (by decide), n1]
        have m2 : sNar C ((-2, 2, t.2.2) :: L) (lplc W d.2 d.1) d.2 d.1 (-2, 2, t.2.2) (max (1 + 1) (-2)) (min 30 2) = rulD C ((-2, -2, t.2.2) :: L) := by
          rw [hp2]
          show (if (2 : Int) < 2 then PyData.none else rulD C (newT d.2 d.1 2 2 (-2, 2, t.2.2) :: L)) = _
          rw [if_neg (by decide), n2]
        rw [m1, m2]
        rfl
      rw [en] at dn
      refine WS_seq (ws_set (ev_call (ds := [askD (webD W od) (rulD C ((-2, 2, t.2.2) :: L)) m, clD "swing" d.2 d.1 0 1]) rfl dn) ?_)
      show WS _ [.dat (askD (webD W od) (rulD C (t :: L)) m), .par 0 (.lst (sn2.map PyData.int)), .dat (webD W od), .dat (rulD C (t :: L)), .dat (.int m), .dat (.str d.1), .dat (.str d.2), .dat (.tuple (C.map rwD)), .dat (.tuple ((t :: L).map tD)), .dat (askD (webD W od) (rulD C ((-2, 2, t.2.2) :: L)) m), s10, s11, .dat (.tuple [askD (webD W od) (rulD C ((1, 2, t.2.2) :: L)) m, askD (webD W od) (rulD C ((-2, -2, t.2.2) :: L)) m]), .non] _
      refine WS_seq (ws_set (ev_tup (ds := [rulD C ((1, 2, t.2.2) :: L), rulD C ((-2, -2, t.2.2) :: L)]) (as_cons (hrul 1 2 _ _ _ _ _ _ _ _ rfl rfl) (as_cons (hrul (-2) (-2) _ _ _ _ _ _ _ _ rfl rfl) as_nil))) ?_)
      show WS _ [.dat (askD (webD W od) (rulD C (t :: L)) m), .par 0 (.lst (sn2.map PyData.int)), .dat (webD W od), .dat (rulD C (t :: L)), .dat (.int m), .dat (.str d.1), .dat (.str d.2), .dat (.tuple (C.map rwD)), .dat (.tuple ((t :: L).map tD)), .dat (askD (webD W od) (rulD C ((-2, 2, t.2.2) :: L)) m), s10, s11, .dat (.tuple [askD (webD W od) (rulD C ((1, 2, t.2.2) :: L)) m, askD (webD W od) (rulD C ((-2, -2, t.2.2) :: L)) m]), .dat (.tuple [rulD C ((1, 2, t.2.2) :: L), rulD C ((-2, -2, t.2.2) :: L)])] _
      have hr1 : ∀ u, nice (rulD C (u :: L)) = true ∧ sz (rulD C (u :: L)) ≤ 20000 := fun u => rul_ok _ _ (by rw [hR.cl]; exact hW.le) (hR.row4 hW) (by rw [List.length_cons]; omega)
      have sm := same_ok (d := .tuple [askD (webD W od) (rulD C ((1, 2, t.2.2) :: L)) m, askD (webD W od) (rulD C ((-2, -2, t.2.2) :: L)) m]) (by
        simp only [askD, nice, niceAll, nw, (hr1 _).1, Bool.and_true]) (by
        simp only [askD, sz, szAll]
        have := (hr1 (1, 2, t.2.2)).2
        have := (hr1 (-2, -2, t.2.2)).2
        omega)
      exact ws_ret (ev_call (ds := [.tuple [askD (webD W od) (rulD C ((1, 2, t.2.2) :: L)) m, askD (webD W od) (rulD C ((-2, -2, t.2.2) :: L)) m], .tuple [askD (webD W od) (rulD C ((1, 2, t.2.2) :: L)) m, askD (webD W od) (rulD C ((-2, -2, t.2.2) :: L)) m]]) rfl sm) ⟨_, rfl, rfl, rfl⟩
  obtain ⟨f, r, h, rfl, rfl⟩ := key
  exact ⟨_, h, six_ge hs⟩
end K28
/-! k28 in plain Lean: law says True -/
namespace K28
open PySem hiding Env
open PySem.W PyProof.Rows L2 HD G
def wD (p : Web × Dart) : PyData := webD p.1 p.2
def rD (q : List (List Bd) × List (Int × Int × Int)) : PyData := rulD q.1 q.2
def lwTail : Ms := (mSeq (mFrz 3 (mFor (mSrc (mVar 3)) (tgN 7)
    (mSeq (mSet 8 (m2 ixD (mLst [(mC (.int 0)), (mC (.int 5000)), (mCall m_law_take [(mVar 1), (mC (.int 5001))])]) (mCall m_law_take [(mVar 1), (mC (.int 3))])))
  (mSeq (mFor (mSrc (mTup [(mCall m_law_free [(mVar 7)]), (mCall m_law_rules [(mVar 1), (mVar 7)])])) (tgN 9)
    (mFor (mSrc (mCall m_law_claims [(mVar 1), (mVar 7), (mVar 9)])) (tgN 10)
    (mIf (mNot (mtst (mCall m_law_asked [(mTup [(mVar 7), (mVar 9), (mVar 8)]), (mVar 10), (mVar 2)])))
    (mRet (mC (.bool false)))
    mNil)))
  (mIf (mNot (mtst (mCall m_law_turned [(mTup [(mVar 7), (mCall m_law_rules [(mVar 1), (mVar 7)]), (mVar 8)]), (mVar 2)])))
    (mRet (mC (.bool false)))
    mNil)))))
  (mRet (m2 gtD (mN (bestD PySem.W.minD) [(mVar 2)]) (mC (.int 0)))))
theorem least_pos {sn : List Int} (h : Ge 1 sn) : ∃ u : Int, bestD minD [.list (sn.map PyData.int)] = some (.d (.int u)) ∧ 0 < u := by
  match sn, h with
  | [], h => exact absurd h.1 (by simp)
  | v :: vs, h =>
    have hok : okList ((v :: vs).map PyData.int) := ⟨fun x hx => by obtain ⟨i, _, rfl⟩ := List.mem_map.mp hx; rfl, fun x hx y hy => by
      obtain ⟨i, _, rfl⟩ := List.mem_map.mp hx
      obtain ⟨j, _, rfl⟩ := List.mem_map.mp hy
      simp [alike]⟩
    have hm := min_list (x := .int v) (xs := vs.map PyData.int) hok (by
      rw [List.all_eq_true]
      intro y hy
      obtain ⟨i, _, rfl⟩ := List.mem_map.mp (show y ∈ (v :: vs).map PyData.int from hy)
      rfl)
    obtain ⟨u, h1, h2⟩ := List.mem_map.mp (show minD (.int v) (vs.map PyData.int) ∈ (v :: vs).map PyData.int from hm.2)
    refine ⟨u, ?_, by have := h.2 u h1; omega⟩
    rw [h2]
    exact hm.1
def endQ : Out → Prop := fun u => ∃ ρ', u = .rt (.bool true) ρ'
def lwI (ws : List (Web × Dart)) (s4 s5 s6 : Sl) (i : Nat) (ρ : G.Env) : Prop := ∃ (o : Ob) (sn : List Int) (s7 s8 s9 s10 : Sl), ρ = [.non, .own o, .own (.lst (sn.map PyData.int)), .dat (.list (ws.map wD)), s4, s5, s6, s7, s8, s9, s10] ∧ GoodP o ∧ Ge 0 sn ∧ (0 < i → Ge 1 sn)
def lwI2 (ws : List (Web × Dart)) (s4 s5 s6 : Sl) (p : Web × Dart) (m : Int) (ρ : G.Env) : Prop := ∃ (o : Ob) (sn : List Int) (s9 s10 : Sl), ρ = [.non, .own o, .own (.lst (sn.map PyData.int)), .dat (.list (ws.map wD)), s4, s5, s6, .dat (wD p), .dat (.int m), s9, s10] ∧ GoodP o ∧ Ge 0 sn
def lwI3 (ws : List (Web × Dart)) (s4 s5 s6 : Sl) (p : Web × Dart) (m : Int) (r : PyData) (o : Ob) (ρ : G.Env) : Prop := ∃ (sn : List Int) (s10 : Sl), ρ = [.non, .own o, .own (.lst (sn.map PyData.int)), .dat (.list (ws.map wD)), s4, s5, s6, .dat (wD p), .dat (.int m), .dat r, s10] ∧ Ge 0 sn
theorem lw_tail {ws : List (Web × Dart)} (hw : ∀ p ∈ ws, GoodW p.1 ∧ p.2 ∈ darts p.1) (h0 : ws ≠ []) {o : Ob} (hg : GoodP o) {sn : List Int} (hs : Ge 0 sn) (s4 s5 s6 s7 s8 s9 s10 : Sl) :
    WS lwTail [.non, .own o, .own (.lst (sn.map PyData.int)), .own (.lst (ws.map wD)), s4, s5, s6, s7, s8, s9, s10] endQ := by
  unfold lwTail
  refine WS_seq (WS_frz ⟨_, .list (ws.map wD), rfl, rfl, ?_⟩)
  show WS _ [.non, .own o, .own (.lst (sn.map PyData.int)), .dat (.list (ws.map wD)), s4, s5, s6, s7, s8, s9, s10] _
  refine WS_for (E_src (.keep (a := .d (.list (ws.map wD))) rfl ⟨ws.map wD, .inl rfl, lwI ws s4 s5 s6, ⟨o, sn, _, _, _, _, rfl, hg, hs, fun z => absurd z (Nat.lt_irrefl 0)⟩, ?_, ?_⟩))
  · rintro i z ρ hz ⟨o, sn, s7, s8, s9, s10, rfl, hg, hs, _⟩
    rw [List.getElem?_map] at hz
    obtain ⟨p, hp, rfl⟩ := Option.map_eq_some_iff.mp hz
    obtain ⟨hW, hd⟩ := hw p (List.mem_of_getElem? hp)
    obtain ⟨nw, sw⟩ := web_ok hW hd
    refine ⟨_, rfl, ?_⟩
    refine WS_seq (WS_set (E_fz (E_m2 (E_fz (E_lst (E_cons (.keep (a := .d (.int 0)) rfl (E_cons (.keep (a := .d (.int 5000)) rfl (E_cons (E_takeF 5001 (.inl rfl) hg rfl (by decide) (by decide) fun t o1 t0 t1 hg1 => E_nil ⟨_, rfl, ⟨.d (.list ([0, 5000, t].map PyData.int)), rfl, E_takeF 3 (.inl rfl) hg1 rfl (by decide) (by decide) fun e o2 e0 e1 hg2 => ?_⟩⟩)))))))))))
    obtain ⟨m, _, hm, _⟩ := ix_drawn (xs := [0, 5000, t]) (f := PyData.int) e0 e1
    refine ⟨_, _, _, rfl, rfl, hm, ⟨_, rfl, _, rfl, ?_⟩⟩
    show WS _ [.non, .own o2, .own (.lst (sn.map PyData.int)), .dat (.list (ws.map wD)), s4, s5, s6, .dat (wD p), .dat (.int m), s9, s10] _
    obtain ⟨o3, C, L, hru, hg3, hQ⟩ := rules_ok hW p.2 hg2
    have rs : ∀ q ∈ [(frC p.1, frL p.1), (C, L)], GoodQ p.1 q.1 q.2 := fun q hq => by
      simp only [List.mem_cons, List.not_mem_nil, or_false] at hq
      rcases hq with rfl | rfl
      · exact free_good p.1
      · exact hQ
    have hfree : Ev (mCall m_law_free [(mVar 7)]) [.non, .own o2, .own (.lst (sn.map PyData.int)), .dat (.list (ws.map wD)), s4, s5, s6, .dat (wD p), .dat (.int m), s9, s10] (rulD (frC p.1) (frL p.1)) := ev_call (ds := [webD p.1 p.2]) rfl (free_ok hW p.2)
    refine WS_seq (WS_for (E_src (E_fz (E_tup (E_cons (hfree.kp (E_cons (E_fz (E_callP (i := 1) (as := [.d (webD p.1 p.2)]) (ds := [webD p.1 p.2]) (.inl rfl) rfl rfl hru (.inl ⟨_, rfl, rfl⟩) ⟨_, rfl, E_nil ⟨_, rfl, ⟨.d (.tuple ([(frC p.1, frL p.1), (C, L)].map rD)), rfl, _, .inr rfl, fun _ => lwI2 ws s4 s5 s6 p m, ⟨o3, sn, _, _, rfl, hg3, hs⟩, ?_, ?_⟩⟩⟩)))))))))
    · rintro j z ρ hz ⟨o, sn, s9, s10, rfl, hg, hs⟩
      rw [List.getElem?_map] at hz
      obtain ⟨q, hq, rfl⟩ := Option.map_eq_some_iff.mp hz
      have hR := rs q (List.mem_of_getElem? hq)
      obtain ⟨o4, R, hcl, hg4, hC⟩ := claims_ok hW p.2 hR hg
      refine ⟨_, rfl, ?_⟩
      show WS _ [.non, .own o, .own (.lst (sn.map PyData.int)), .dat (.list (ws.map wD)), s4, s5, s6, .dat (wD p), .dat (.int m), .dat (rD q), s10] _
      refine WS_for (E_src (E_fz (E_callP (i := 1) (as := [.d (webD p.1 p.2), .d (rulD q.1 q.2)]) (ds := [webD p.1 p.2, rulD q.1 q.2]) (.inl rfl) rfl rfl hcl (.inl ⟨_, rfl, rfl⟩) ⟨_, rfl, _, .inl rfl, fun _ => lwI3 ws s4 s5 s6 p m (rD q) o4, ⟨sn, s10, rfl, hs⟩, ?_, ?_⟩)))
      · rintro k z ρ hz ⟨sn, s10, rfl, hs⟩
        rw [List.getElem?_map] at hz
        obtain ⟨c, hc, rfl⟩ := Option.map_eq_some_iff.mp hz
        have hcW := hC c (List.mem_of_getElem? hc)
        obtain ⟨pb, N, hN, _⟩ := clok hW p.2 hR hcW.1 hcW.2
        refine ⟨_, rfl, ?_⟩
        show WS _ [.non, .own o4, .own (.lst (sn.map PyData.int)), .dat (.list (ws.map wD)), s4, s5, s6, .dat (wD p), .dat (.int m), .dat (rD q), .dat (cD5 c)] _
        have a1 := tst_asked (hN c.2.2.2.1 c.2.2.2.2) (m := m) nw sw hs.1 (ρ := [.non, .own o4, .own (.lst (sn.map PyData.int)), .dat (.list (ws.map wD)), s4, s5, s6, .dat (wD p), .dat (.int m), .dat (rD q), .dat (cD5 c)]) (i := 2) (mq := mTup [(mVar 7), (mVar 9), (mVar 8)]) (mc := mVar 10) rfl rfl (.inl rfl)
        refine ws_if (not_of2 a1) ?_
        rw [if_neg (by decide)]
        exact ws_nil ⟨asN c.2.2.2.1 c.2.2.2.2 pb sn, .dat (cD5 c), rfl, (hs.bump _).bump _⟩
      · rintro ρ ⟨sn, s10, rfl, hs⟩
        exact ⟨o4, sn, _, _, rfl, hg4, hs⟩
    · rintro ρ ⟨o, sn, s9, s10, rfl, hg, hs⟩
      obtain ⟨o4, C', L', hru', hg4, hQ'⟩ := rules_ok hW p.2 hg
      obtain ⟨sn', htu, hs'⟩ := turned_ok hW hd hQ'.toGoodR m hs
      refine WS_if (E_not (E_tst (E_call (E_cons (E_fz (E_tup (E_cons (.keep (a := .d (webD p.1 p.2)) rfl (E_cons (E_fz (E_callP (i := 1) (as := [.d (webD p.1 p.2)]) (ds := [webD p.1 p.2]) (.inl rfl) rfl rfl hru' (.inl ⟨_, rfl, rfl⟩) ⟨_, rfl, E_cons (.keep (a := .d (.int m)) rfl (E_nil ⟨_, rfl, ⟨.d (askD (webD p.1 p.2) (rulD C' L') m), rfl, E_cons (.keep (a := .b 2) rfl (E_nil ⟨(by show ([2] : List Nat).Nodup; simp), [.dat (askD (webD p.1 p.2) (rulD C' L') m), .par 0 (.lst (sn.map PyData.int))], rfl, _, _, .d (.bool true), _, htu, rfl, rfl, ⟨true, rfl, ?_⟩⟩))⟩⟩))⟩)))))))))))
      rw [if_neg (by decide)]
      exact ws_nil ⟨o4, sn', _, _, _, _, rfl, hg4, hs'.mono (by decide), fun _ => hs'⟩
  · rintro ρ ⟨o, sn, s7, s8, s9, s10, rfl, hg, hs, hp⟩
    rw [List.length_map] at hp
    obtain ⟨u, e1, e2⟩ := least_pos (hp (List.length_pos_iff.mpr h0))
    have : Ev (m2 gtD (mN (bestD PySem.W.minD) [(mVar 2)]) (mC (.int 0))) [.non, .own o, .own (.lst (sn.map PyData.int)), .dat (.list (ws.map wD)), s4, s5, s6, s7, s8, s9, s10] (.bool true) := ev_m2 (b := .int 0) (ev_n1 (a := .list (sn.map PyData.int)) ⟨.b 2, rfl, rfl⟩ e1).r ⟨_, rfl, rfl⟩ (by
      show some (Res.d (.bool (decide (0 < u)))) = _
      rw [decide_eq_true e2])
    exact ws_ret this ⟨_, rfl⟩
end K28
/-! k28 in plain Lean: law says True, the whole -/
namespace K28
open PySem hiding Env
open PySem.W PyProof.Rows L2 HD G
theorem law_true {ns : List Int} (hn : ns.length ≤ 63) : ∃ ρ, b_law (law0 9 ns) = some (.rt (.bool true) ρ) := by
  suffices h : WS b_law (law0 9 ns) endQ by
    obtain ⟨u, h1, ρ', rfl⟩ := h
    exact ⟨ρ', h1⟩
  have hg : GoodP (.pool [.int (poolOf ns).1] ((poolOf ns).2.map .int) []) := by
    obtain ⟨h1, h2⟩ := poolOf_ok ns
    refine ⟨_, _, rfl, h1, fun d hd => ?_, by rw [List.length_map]; omega⟩
    obtain ⟨z, _, rfl⟩ := List.mem_map.mp hd
    exact ⟨z, rfl⟩
  unfold law0
  generalize Ob.pool [.int (poolOf ns).1] ((poolOf ns).2.map .int) [] = o at hg ⊢
  show WS b_law [.non, .own o, .non, .non, .non, .non, .non, .non, .non, .non, .non] endQ
  refine WS_seq (WS_setO (.keep (a := .fr (.lst ([0, 0, 0, 0, 0].map PyData.int))) rfl ⟨_, rfl, ?_⟩))
  have hs : Ge 0 [0, 0, 0, 0, 0] := ⟨rfl, fun v hv => by
    simp only [List.mem_cons, List.not_mem_nil, or_false] at hv
    omega⟩
  generalize [(0 : Int), 0, 0, 0, 0] = sn at hs ⊢
  show WS _ [.non, .own o, .own (.lst (sn.map PyData.int)), .non, .non, .non, .non, .non, .non, .non, .non] _
  refine WS_seq (WS_setO (E_lst (E_cons (E_fz (E_call (E_cons (.keep (a := .b 1) rfl (E_cons (E_fz (E_m2 (.keep (a := .d (.int 2)) rfl (E_takeF 7 (.inl rfl) hg rfl (by decide) (by decide) fun r o1 r0 r1 hg1 => ?_))))))))))))
  obtain ⟨o2, W1, d1, e1, hg2, hW1, hd1⟩ := map_ok (k := 0) (most := 2 + r) hg1 (by omega)
  refine ⟨_, _, .d (.int (2 + r)), rfl, rfl, rfl, ⟨_, rfl, E_nil ⟨(by show ([1] : List Nat).Nodup; simp), [.par 0 o1, .dat (.int (2 + r))], rfl, _, _, .d (webD W1 d1), _, e1, rfl, rfl, ⟨.d (webD W1 d1), rfl, ?_⟩⟩⟩⟩
  refine E_cons (E_fz (E_call (E_cons (.keep (a := .b 1) rfl (E_cons (E_fz (E_m2 (.keep (a := .d (.int 2)) rfl (E_takeF 4 (.inl rfl) hg2 rfl (by decide) (by decide) fun r' o3 r0' r1' hg3 => ?_)))))))))
  obtain ⟨o4, W2, d2, e2, hg4, hW2, hd2⟩ := map_ok (k := 0) (most := 2 + r') hg3 (by omega)
  refine ⟨_, _, .d (.int (2 + r')), rfl, rfl, rfl, ⟨_, rfl, E_nil ⟨(by show ([1] : List Nat).Nodup; simp), [.par 0 o3, .dat (.int (2 + r'))], rfl, _, _, .d (webD W2 d2), _, e2, rfl, rfl, ⟨.d (webD W2 d2), rfl, E_nil ⟨_, rfl, ⟨.lst ([(W1, d1), (W2, d2)].map wD), rfl, ?_⟩⟩⟩⟩⟩⟩
  have hws : ∀ p ∈ [(W1, d1), (W2, d2)], GoodW p.1 ∧ p.2 ∈ darts p.1 := fun p hp => by
    simp only [List.mem_cons, List.not_mem_nil, or_false] at hp
    rcases hp with rfl | rfl
    · exact ⟨hW1, hd1⟩
    · exact ⟨hW2, hd2⟩
  have hwl : [(W1, d1), (W2, d2)].length = 2 := rfl
  generalize [(W1, d1), (W2, d2)] = ws at hws hwl ⊢
  show WS _ [.non, .own o4, .own (.lst (sn.map PyData.int)), .own (.lst (ws.map wD)), .non, .non, .non, .non, .non, .non, .non] _
  refine WS_seq (WS_if (E_tst (E_m2 (E_takeF 11 (.inl rfl) hg4 rfl (by decide) (by decide) fun z o5 z0 z1 hg5 => .keep (a := .d (.int 2)) rfl ⟨_, _, _, rfl, rfl, eq_int z 2, _, rfl, ?_⟩))))
  by_cases hz : z = 2
  · rw [if_pos (decide_eq_true hz)]
    show WS _ [.non, .own o5, .own (.lst (sn.map PyData.int)), .own (.lst (ws.map wD)), .non, .non, .non, .non, .non, .non, .non] _
    obtain ⟨o6, T0, g1, hg6, hT0⟩ := grid_ok (k := 0) (w := 8) (h := 6) (m := 40) hg5 (by decide) (by decide) (by decide)
    obtain ⟨o7, T, g2, hg7, hT⟩ := smoothed_ok hg6 hT0
    refine WS_seq (WS_set (E_fz (E_callT (.keep (a := .b 1) rfl (E_callP (i := 1) (as := [.d (.int 8), .d (.int 6), .d (.int 40)]) (ds := [.int 8, .int 6, .int 40]) (.inl rfl) rfl rfl g1 (.inr ⟨_, rfl, rfl⟩) ⟨1, _, o6, o7, .dN (tab nk vR T), rfl, rfl, by show 1 < 11; decide, rfl, g2, ⟨.d (tblD T), rfl, _, rfl, ?_⟩⟩)))))
    show WS _ [.non, .own o7, .own (.lst (sn.map PyData.int)), .own (.lst (ws.map wD)), .dat (tblD T), .non, .non, .non, .non, .non, .non] _
    refine WS_seq (WS_setO (.keep (a := .fr (.dN [])) rfl ⟨_, rfl, ?_⟩))
    show WS _ [.non, .own o7, .own (.lst (sn.map PyData.int)), .own (.lst (ws.map wD)), .dat (tblD T), .own (.dN (tab nk vS [])), .non, .non, .non, .non, .non] _
    refine WS_seq (WS_for (keys_src hT.lim (a := .d (tblD T)) rfl rfl fun ks hks => ⟨fun i ρ => ∃ (o : Ob) (WD : List (Cell × Str)) (s : Sl), ρ = [.non, .own o, .own (.lst (sn.map PyData.int)), .own (.lst (ws.map wD)), .dat (tblD T), .own (.dN (tab nk vS WD)), s, .non, .non, .non, .non] ∧ GoodP o ∧ WordsI ks i WD, ?_, ?_, ?_⟩))
    · exact ⟨o7, [], _, rfl, hg7, rfl, fun j c hj => absurd hj (Nat.not_lt_zero j)⟩
    · rintro i x ρ hx ⟨o8, WD, s, rfl, hg8, hW⟩
      rw [List.getElem?_map] at hx
      obtain ⟨c, hc, rfl⟩ := Option.map_eq_some_iff.mp hx
      have hi := (List.getElem?_eq_some_iff.mp hc).1
      have hks40 : ks.length ≤ 40 := by
        rw [hks.length_eq, List.length_map]
        exact hT.le
      have hl : WD.length = i := by
        have := congrArg List.length hW.keys
        rw [List.length_map, List.length_take] at this
        omega
      have hlim : WD.length < LIM := Nat.lt_of_le_of_lt (show _ ≤ 40 by omega) (by decide)
      refine ⟨_, rfl, ?_⟩
      show WS _ [.non, .own o8, .own (.lst (sn.map PyData.int)), .own (.lst (ws.map wD)), .dat (tblD T), .own (.dN (tab nk vS WD)), .dat (cD c), .non, .non, .non, .non] _
      obtain ⟨o9, x, e3, hg9, hx⟩ := word_ok (k := 0) (n := i) hg8 (by omega)
      have hlen : Ev (mN lenD [mVar 5]) [.non, .own o8, .own (.lst (sn.map PyData.int)), .own (.lst (ws.map wD)), .dat (tblD T), .own (.dN (tab nk vS WD)), .dat (cD c), .non, .non, .non, .non] (.int (i : Int)) := by
        have := len_words hlim
        rw [hl] at this
        exact ev_n1 ⟨.b 5, rfl, rfl⟩ this
      refine WS_put (E_fz (E_callP (i := 1) (as := [.d (.int (i : Int))]) (ds := [.int (i : Int)]) (.inl rfl) (mArgs_one hlen) rfl e3 (.inl ⟨_, rfl, rfl⟩) ⟨.d (.str x), rfl, rfl, .keep (a := .d (cD c)) rfl ⟨_, _, _, _, rfl, rfl, rfl, kn_cell.put (v := vS) hlim c x, ?_⟩⟩))
      exact ⟨o9, putA WD c x, _, rfl, hg9, hW.step (hks.nodup_iff.mpr hT.nd) hc hx⟩
    rintro ρ ⟨o8, WD, s, rfl, hg8, hW⟩
    rw [List.length_map] at hW
    have hN := hW.named hks (by rw [hks.length_eq, List.length_map]; exact hT.le)
    obtain ⟨o9, W, d, e3, hg9, hGW, hd⟩ := named_ok hg8 hT hN
    refine WS_exp (E_append (l0 := ws.map wD) rfl (E_fz (E_call (.keep (a := [.b 1, .d (tblD T), .b 5]) rfl ⟨(by show ([1, 5] : List Nat).Nodup; decide), [.par 0 o8, .dat (tblD T), .par 1 (.dN (tab nk vS WD))], rfl, _, _, .d (webD W d), _, e3, rfl, rfl, ⟨.d (webD W d), rfl, _, ws.map wD, rfl, rfl, by rw [List.length_map, hwl]; decide, ?_⟩⟩))))
    have hws' : ∀ p ∈ ws ++ [(W, d)], GoodW p.1 ∧ p.2 ∈ darts p.1 := fun p hp => by
      rcases List.mem_append.mp hp with z | z
      · exact hws p z
      · rw [List.mem_singleton.mp z]
        exact ⟨hGW, hd⟩
    have fin := lw_tail hws' (by simp) hg9 hs (.dat (tblD T)) (.own (.dN (tab nk vS WD))) s .non .non .non .non
    rw [List.map_append] at fin
    exact fin
  · rw [if_neg (by simpa using hz)]
    exact ws_nil (lw_tail hws (fun z => by rw [z] at hwl; simp at hwl) hg5 hs .non .non .non .non .non .non .non)
end K28
namespace K28
open PySem PyProof.Rows L2 HD HT G K2
/-! ### what the top has written -/
def dfOf {K : PySem.W.Frag} {h : Heap} {mg : Str → Option Value} (X : K.In h) (G : h.Ns mainGlobals mg) {nm : Str} {st : Stmt} {ps : List Str} {f : Addr} {od an : Option Addr} {sl : Array (Option Value)} {oc kV dc pm cd ct : Value}
    (a : PySem.W.nsIn K mainGlobals nm = some (some (.ref f))) (l : K.lookup f = some ⟨oc, od, .func (PySem.W.fnOf nm nm (defArgs st) (defBody st) (defScope st) .none kV dc pm an cd ct), sl⟩) (c : PySem.W.codeIn K cd nm = true) (k : PySem.W.keepIn K (.ref f) = true)
    (b : ∀ (kV doc pm : Value) (an : Option Addr) (cdv ct : Value) (us : List Value), us.length = ps.length → bindArgs (PySem.W.fnOf nm nm (defArgs st) (defBody st) (defScope st) .none kV doc pm an cdv ct) ⟨us, []⟩ = pure (ps.zip us)) : Df K mg nm st ps :=
  ⟨f, _, fun_mk l c k, (fun_mk l c k).binds b, PySem.W.mg_of X G a⟩
theorem all_mk {l : PySem.W.OpenLaw} {w : World} {K : PySem.W.Frag} {h : Heap} {mg : Str → Option Value} {fa : Addr} (X : K.In h) (G : h.Ns mainGlobals mg) (hfa : mg "law" = some (.ref fa))
    {t_SWING_MOST : Tok}
    {f0 : Addr} {od0 an0 : Option Addr} {sl0 : Array (Option Value)} {oc0 kV0 dc0 pm0 cd0 ct0 : Value}
    {f1 : Addr} {od1 an1 : Option Addr} {sl1 : Array (Option Value)} {oc1 kV1 dc1 pm1 cd1 ct1 : Value}
    {f2 : Addr} {od2 an2 : Option Addr} {sl2 : Array (Option Value)} {oc2 kV2 dc2 pm2 cd2 ct2 : Value}
    {f3 : Addr} {od3 an3 : Option Addr} {sl3 : Array (Option Value)} {oc3 kV3 dc3 pm3 cd3 ct3 : Value}
    {f4 : Addr} {od4 an4 : Option Addr} {sl4 : Array (Option Value)} {oc4 kV4 dc4 pm4 cd4 ct4 : Value}
    {f5 : Addr} {od5 an5 : Option Addr} {sl5 : Array (Option Value)} {oc5 kV5 dc5 pm5 cd5 ct5 : Value}
    {f6 : Addr} {od6 an6 : Option Addr} {sl6 : Array (Option Value)} {oc6 kV6 dc6 pm6 cd6 ct6 : Value}
    {f7 : Addr} {od7 an7 : Option Addr} {sl7 : Array (Option Value)} {oc7 kV7 dc7 pm7 cd7 ct7 : Value}
    {f8 : Addr} {od8 an8 : Option Addr} {sl8 : Array (Option Value)} {oc8 kV8 dc8 pm8 cd8 ct8 : Value}
    {f9 : Addr} {od9 an9 : Option Addr} {sl9 : Array (Option Value)} {oc9 kV9 dc9 pm9 cd9 ct9 : Value}
    {f10 : Addr} {od10 an10 : Option Addr} {sl10 : Array (Option Value)} {oc10 kV10 dc10 pm10 cd10 ct10 : Value}
    {f11 : Addr} {od11 an11 : Option Addr} {sl11 : Array (Option Value)} {oc11 kV11 dc11 pm11 cd11 ct11 : Value}
    {f12 : Addr} {od12 an12 : Option Addr} {sl12 : Array (Option Value)} {oc12 kV12 dc12 pm12 cd12 ct12 : Value}
    {f13 : Addr} {od13 an13 : Option Addr} {sl13 : Array (Option Value)} {oc13 kV13 dc13 pm13 cd13 ct13 : Value}
    {f14 : Addr} {od14 an14 : Option Addr} {sl14 : Array (Option Value)} {oc14 kV14 dc14 pm14 cd14 ct14 : Value}
    {f15 : Addr} {od15 an15 : Option Addr} {sl15 : Array (Option Value)} {oc15 kV15 dc15 pm15 cd15 ct15 : Value}
    {f16 : Addr} {od16 an16 : Option Addr} {sl16 : Array (Option Value)} {oc16 kV16 dc16 pm16 cd16 ct16 : Value}
    {f17 : Addr} {od17 an17 : Option Addr} {sl17 : Array (Option Value)} {oc17 kV17 dc17 pm17 cd17 ct17 : Value}
    {f18 : Addr} {od18 an18 : Option Addr} {sl18 : Array (Option Value)} {oc18 kV18 dc18 pm18 cd18 ct18 : Value}
    {f19 : Addr} {od19 an19 : Option Addr} {sl19 : Array (Option Value)} {oc19 kV19 dc19 pm19 cd19 ct19 : Value}
    {f20 : Addr} {od20 an20 : Option Addr} {sl20 : Array (Option Value)} {oc20 kV20 dc20 pm20 cd20 ct20 : Value}
    {f21 : Addr} {od21 an21 : Option Addr} {sl21 : Array (Option Value)} {oc21 kV21 dc21 pm21 cd21 ct21 : Value}
    {f22 : Addr} {od22 an22 : Option Addr} {sl22 : Array (Option Value)} {oc22 kV22 dc22 pm22 cd22 ct22 : Value}
    {f23 : Addr} {od23 an23 : Option Addr} {sl23 : Array (Option Value)} {oc23 kV23 dc23 pm23 cd23 ct23 : Value}
    {f24 : Addr} {od24 an24 : Option Addr} {sl24 : Array (Option Value)} {oc24 kV24 dc24 pm24 cd24 ct24 : Value}
    {f25 : Addr} {od25 an25 : Option Addr} {sl25 : Array (Option Value)} {oc25 kV25 dc25 pm25 cd25 ct25 : Value}
    {f26 : Addr} {od26 an26 : Option Addr} {sl26 : Array (Option Value)} {oc26 kV26 dc26 pm26 cd26 ct26 : Value}
    {f27 : Addr} {od27 an27 : Option Addr} {sl27 : Array (Option Value)} {oc27 kV27 dc27 pm27 cd27 ct27 : Value}
    {f28 : Addr} {od28 an28 : Option Addr} {sl28 : Array (Option Value)} {oc28 kV28 dc28 pm28 cd28 ct28 : Value}
    {f29 : Addr} {od29 an29 : Option Addr} {sl29 : Array (Option Value)} {oc29 kV29 dc29 pm29 cd29 ct29 : Value}
    {f30 : Addr} {od30 an30 : Option Addr} {sl30 : Array (Option Value)} {oc30 kV30 dc30 pm30 cd30 ct30 : Value}
    {f31 : Addr} {od31 an31 : Option Addr} {sl31 : Array (Option Value)} {oc31 kV31 dc31 pm31 cd31 ct31 : Value}
    {f32 : Addr} {od32 an32 : Option Addr} {sl32 : Array (Option Value)} {oc32 kV32 dc32 pm32 cd32 ct32 : Value}
    {f33 : Addr} {od33 an33 : Option Addr} {sl33 : Array (Option Value)} {oc33 kV33 dc33 pm33 cd33 ct33 : Value}
    {f34 : Addr} {od34 an34 : Option Addr} {sl34 : Array (Option Value)} {oc34 kV34 dc34 pm34 cd34 ct34 : Value}
    {f35 : Addr} {od35 an35 : Option Addr} {sl35 : Array (Option Value)} {oc35 kV35 dc35 pm35 cd35 ct35 : Value}
    {f36 : Addr} {od36 an36 : Option Addr} {sl36 : Array (Option Value)} {oc36 kV36 dc36 pm36 cd36 ct36 : Value}
    {f37 : Addr} {od37 an37 : Option Addr} {sl37 : Array (Option Value)} {oc37 kV37 dc37 pm37 cd37 ct37 : Value}
    {f38 : Addr} {od38 an38 : Option Addr} {sl38 : Array (Option Value)} {oc38 kV38 dc38 pm38 cd38 ct38 : Value}
    {f39 : Addr} {od39 an39 : Option Addr} {sl39 : Array (Option Value)} {oc39 kV39 dc39 pm39 cd39 ct39 : Value}
    {f40 : Addr} {od40 an40 : Option Addr} {sl40 : Array (Option Value)} {oc40 kV40 dc40 pm40 cd40 ct40 : Value}
    {f41 : Addr} {od41 an41 : Option Addr} {sl41 : Array (Option Value)} {oc41 kV41 dc41 pm41 cd41 ct41 : Value}
    {f42 : Addr} {od42 an42 : Option Addr} {sl42 : Array (Option Value)} {oc42 kV42 dc42 pm42 cd42 ct42 : Value}
    {f43 : Addr} {od43 an43 : Option Addr} {sl43 : Array (Option Value)} {oc43 kV43 dc43 pm43 cd43 ct43 : Value}
    (n_abs : PySem.W.nsIn K mainGlobals "abs" = some none)
    (n_bool : PySem.W.nsIn K mainGlobals "bool" = some none)
    (n_int : PySem.W.nsIn K mainGlobals "int" = some none)
    (n_isinstance : PySem.W.nsIn K mainGlobals "isinstance" = some none)
    (n_len : PySem.W.nsIn K mainGlobals "len" = some none)
    (n_list : PySem.W.nsIn K mainGlobals "list" = some none)
    (n_max : PySem.W.nsIn K mainGlobals "max" = some none)
    (n_min : PySem.W.nsIn K mainGlobals "min" = some none)
    (n_range : PySem.W.nsIn K mainGlobals "range" = some none)
    (n_sorted : PySem.W.nsIn K mainGlobals "sorted" = some none)
    (n_str : PySem.W.nsIn K mainGlobals "str" = some none)
    (n_tuple : PySem.W.nsIn K mainGlobals "tuple" = some none)
    (g_SWING_MOST : PySem.W.nsIn K mainGlobals "SWING_MOST" = some (some (.int 30 t_SWING_MOST)))
    (a0 : PySem.W.nsIn K mainGlobals "turn_table" = some (some (.ref f0)))
    (l0 : K.lookup f0 = some ⟨oc0, od0, .func (PySem.W.fnOf "turn_table" "turn_table" (defArgs s_turn_table) (defBody s_turn_table) (defScope s_turn_table) .none kV0 dc0 pm0 an0 cd0 ct0), sl0⟩)
    (c0 : PySem.W.codeIn K cd0 "turn_table" = true)
    (k0 : PySem.W.keepIn K (.ref f0) = true)
    (a1 : PySem.W.nsIn K mainGlobals "names_of" = some (some (.ref f1)))
    (l1 : K.lookup f1 = some ⟨oc1, od1, .func (PySem.W.fnOf "names_of" "names_of" (defArgs s_names_of) (defBody s_names_of) (defScope s_names_of) .none kV1 dc1 pm1 an1 cd1 ct1), sl1⟩)
    (c1 : PySem.W.codeIn K cd1 "names_of" = true)
    (k1 : PySem.W.keepIn K (.ref f1) = true)
    (a2 : PySem.W.nsIn K mainGlobals "dart_list" = some (some (.ref f2)))
    (l2 : K.lookup f2 = some ⟨oc2, od2, .func (PySem.W.fnOf "dart_list" "dart_list" (defArgs s_dart_list) (defBody s_dart_list) (defScope s_dart_list) .none kV2 dc2 pm2 an2 cd2 ct2), sl2⟩)
    (c2 : PySem.W.codeIn K cd2 "dart_list" = true)
    (k2 : PySem.W.keepIn K (.ref f2) = true)
    (a3 : PySem.W.nsIn K mainGlobals "link_list" = some (some (.ref f3)))
    (l3 : K.lookup f3 = some ⟨oc3, od3, .func (PySem.W.fnOf "link_list" "link_list" (defArgs s_link_list) (defBody s_link_list) (defScope s_link_list) .none kV3 dc3 pm3 an3 cd3 ct3), sl3⟩)
    (c3 : PySem.W.codeIn K cd3 "link_list" = true)
    (k3 : PySem.W.keepIn K (.ref f3) = true)
    (a4 : PySem.W.nsIn K mainGlobals "link_of" = some (some (.ref f4)))
    (l4 : K.lookup f4 = some ⟨oc4, od4, .func (PySem.W.fnOf "link_of" "link_of" (defArgs s_link_of) (defBody s_link_of) (defScope s_link_of) .none kV4 dc4 pm4 an4 cd4 ct4), sl4⟩)
    (c4 : PySem.W.codeIn K cd4 "link_of" = true)
    (k4 : PySem.W.keepIn K (.ref f4) = true)
    (a5 : PySem.W.nsIn K mainGlobals "are_neighbours" = some (some (.ref f5)))
    (l5 : K.lookup f5 = some ⟨oc5, od5, .func (PySem.W.fnOf "are_neighbours" "are_neighbours" (defArgs s_are_neighbours) (defBody s_are_neighbours) (defScope s_are_neighbours) .none kV5 dc5 pm5 an5 cd5 ct5), sl5⟩)
    (c5 : PySem.W.codeIn K cd5 "are_neighbours" = true)
    (k5 : PySem.W.keepIn K (.ref f5) = true)
    (a6 : PySem.W.nsIn K mainGlobals "dart_or_raise" = some (some (.ref f6)))
    (l6 : K.lookup f6 = some ⟨oc6, od6, .func (PySem.W.fnOf "dart_or_raise" "dart_or_raise" (defArgs s_dart_or_raise) (defBody s_dart_or_raise) (defScope s_dart_or_raise) .none kV6 dc6 pm6 an6 cd6 ct6), sl6⟩)
    (c6 : PySem.W.codeIn K cd6 "dart_or_raise" = true)
    (k6 : PySem.W.keepIn K (.ref f6) = true)
    (a7 : PySem.W.nsIn K mainGlobals "corner_place" = some (some (.ref f7)))
    (l7 : K.lookup f7 = some ⟨oc7, od7, .func (PySem.W.fnOf "corner_place" "corner_place" (defArgs s_corner_place) (defBody s_corner_place) (defScope s_corner_place) .none kV7 dc7 pm7 an7 cd7 ct7), sl7⟩)
    (c7 : PySem.W.codeIn K cd7 "corner_place" = true)
    (k7 : PySem.W.keepIn K (.ref f7) = true)
    (a8 : PySem.W.nsIn K mainGlobals "link_place" = some (some (.ref f8)))
    (l8 : K.lookup f8 = some ⟨oc8, od8, .func (PySem.W.fnOf "link_place" "link_place" (defArgs s_link_place) (defBody s_link_place) (defScope s_link_place) .none kV8 dc8 pm8 an8 cd8 ct8), sl8⟩)
    (c8 : PySem.W.codeIn K cd8 "link_place" = true)
    (k8 : PySem.W.keepIn K (.ref f8) = true)
    (a9 : PySem.W.nsIn K mainGlobals "corner_rule" = some (some (.ref f9)))
    (l9 : K.lookup f9 = some ⟨oc9, od9, .func (PySem.W.fnOf "corner_rule" "corner_rule" (defArgs s_corner_rule) (defBody s_corner_rule) (defScope s_corner_rule) .none kV9 dc9 pm9 an9 cd9 ct9), sl9⟩)
    (c9 : PySem.W.codeIn K cd9 "corner_rule" = true)
    (k9 : PySem.W.keepIn K (.ref f9) = true)
    (a10 : PySem.W.nsIn K mainGlobals "turned_bounds" = some (some (.ref f10)))
    (l10 : K.lookup f10 = some ⟨oc10, od10, .func (PySem.W.fnOf "turned_bounds" "turned_bounds" (defArgs s_turned_bounds) (defBody s_turned_bounds) (defScope s_turned_bounds) .none kV10 dc10 pm10 an10 cd10 ct10), sl10⟩)
    (c10 : PySem.W.codeIn K cd10 "turned_bounds" = true)
    (k10 : PySem.W.keepIn K (.ref f10) = true)
    (a11 : PySem.W.nsIn K mainGlobals "swing_rule" = some (some (.ref f11)))
    (l11 : K.lookup f11 = some ⟨oc11, od11, .func (PySem.W.fnOf "swing_rule" "swing_rule" (defArgs s_swing_rule) (defBody s_swing_rule) (defScope s_swing_rule) .none kV11 dc11 pm11 an11 cd11 ct11), sl11⟩)
    (c11 : PySem.W.codeIn K cd11 "swing_rule" = true)
    (k11 : PySem.W.keepIn K (.ref f11) = true)
    (a12 : PySem.W.nsIn K mainGlobals "put_at" = some (some (.ref f12)))
    (l12 : K.lookup f12 = some ⟨oc12, od12, .func (PySem.W.fnOf "put_at" "put_at" (defArgs s_put_at) (defBody s_put_at) (defScope s_put_at) .none kV12 dc12 pm12 an12 cd12 ct12), sl12⟩)
    (c12 : PySem.W.codeIn K cd12 "put_at" = true)
    (k12 : PySem.W.keepIn K (.ref f12) = true)
    (a13 : PySem.W.nsIn K mainGlobals "corner_put" = some (some (.ref f13)))
    (l13 : K.lookup f13 = some ⟨oc13, od13, .func (PySem.W.fnOf "corner_put" "corner_put" (defArgs s_corner_put) (defBody s_corner_put) (defScope s_corner_put) .none kV13 dc13 pm13 an13 cd13 ct13), sl13⟩)
    (c13 : PySem.W.codeIn K cd13 "corner_put" = true)
    (k13 : PySem.W.keepIn K (.ref f13) = true)
    (a14 : PySem.W.nsIn K mainGlobals "swing_put" = some (some (.ref f14)))
    (l14 : K.lookup f14 = some ⟨oc14, od14, .func (PySem.W.fnOf "swing_put" "swing_put" (defArgs s_swing_put) (defBody s_swing_put) (defScope s_swing_put) .none kV14 dc14 pm14 an14 cd14 ct14), sl14⟩)
    (c14 : PySem.W.codeIn K cd14 "swing_put" = true)
    (k14 : PySem.W.keepIn K (.ref f14) = true)
    (a15 : PySem.W.nsIn K mainGlobals "rule_of" = some (some (.ref f15)))
    (l15 : K.lookup f15 = some ⟨oc15, od15, .func (PySem.W.fnOf "rule_of" "rule_of" (defArgs s_rule_of) (defBody s_rule_of) (defScope s_rule_of) .none kV15 dc15 pm15 an15 cd15 ct15), sl15⟩)
    (c15 : PySem.W.codeIn K cd15 "rule_of" = true)
    (k15 : PySem.W.keepIn K (.ref f15) = true)
    (a16 : PySem.W.nsIn K mainGlobals "narrowed" = some (some (.ref f16)))
    (l16 : K.lookup f16 = some ⟨oc16, od16, .func (PySem.W.fnOf "narrowed" "narrowed" (defArgs s_narrowed) (defBody s_narrowed) (defScope s_narrowed) .none kV16 dc16 pm16 an16 cd16 ct16), sl16⟩)
    (c16 : PySem.W.codeIn K cd16 "narrowed" = true)
    (k16 : PySem.W.keepIn K (.ref f16) = true)
    (a17 : PySem.W.nsIn K mainGlobals "claim_narrowed" = some (some (.ref f17)))
    (l17 : K.lookup f17 = some ⟨oc17, od17, .func (PySem.W.fnOf "claim_narrowed" "claim_narrowed" (defArgs s_claim_narrowed) (defBody s_claim_narrowed) (defScope s_claim_narrowed) .none kV17 dc17 pm17 an17 cd17 ct17), sl17⟩)
    (c17 : PySem.W.codeIn K cd17 "claim_narrowed" = true)
    (k17 : PySem.W.keepIn K (.ref f17) = true)
    (a18 : PySem.W.nsIn K mainGlobals "ask_list" = some (some (.ref f18)))
    (l18 : K.lookup f18 = some ⟨oc18, od18, .func (PySem.W.fnOf "ask_list" "ask_list" (defArgs s_ask_list) (defBody s_ask_list) (defScope s_ask_list) .none kV18 dc18 pm18 an18 cd18 ct18), sl18⟩)
    (c18 : PySem.W.codeIn K cd18 "ask_list" = true)
    (k18 : PySem.W.keepIn K (.ref f18) = true)
    (a19 : PySem.W.nsIn K mainGlobals "case_list" = some (some (.ref f19)))
    (l19 : K.lookup f19 = some ⟨oc19, od19, .func (PySem.W.fnOf "case_list" "case_list" (defArgs s_case_list) (defBody s_case_list) (defScope s_case_list) .none kV19 dc19 pm19 an19 cd19 ct19), sl19⟩)
    (c19 : PySem.W.codeIn K cd19 "case_list" = true)
    (k19 : PySem.W.keepIn K (.ref f19) = true)
    (a20 : PySem.W.nsIn K mainGlobals "denial_list" = some (some (.ref f20)))
    (l20 : K.lookup f20 = some ⟨oc20, od20, .func (PySem.W.fnOf "denial_list" "denial_list" (defArgs s_denial_list) (defBody s_denial_list) (defScope s_denial_list) .none kV20 dc20 pm20 an20 cd20 ct20), sl20⟩)
    (c20 : PySem.W.codeIn K cd20 "denial_list" = true)
    (k20 : PySem.W.keepIn K (.ref f20) = true)
    (a21 : PySem.W.nsIn K mainGlobals "cases_of" = some (some (.ref f21)))
    (l21 : K.lookup f21 = some ⟨oc21, od21, .func (PySem.W.fnOf "cases_of" "cases_of" (defArgs s_cases_of) (defBody s_cases_of) (defScope s_cases_of) .none kV21 dc21 pm21 an21 cd21 ct21), sl21⟩)
    (c21 : PySem.W.codeIn K cd21 "cases_of" = true)
    (k21 : PySem.W.keepIn K (.ref f21) = true)
    (a22 : PySem.W.nsIn K mainGlobals "denial_cases" = some (some (.ref f22)))
    (l22 : K.lookup f22 = some ⟨oc22, od22, .func (PySem.W.fnOf "denial_cases" "denial_cases" (defArgs s_denial_cases) (defBody s_denial_cases) (defScope s_denial_cases) .none kV22 dc22 pm22 an22 cd22 ct22), sl22⟩)
    (c22 : PySem.W.codeIn K cd22 "denial_cases" = true)
    (k22 : PySem.W.keepIn K (.ref f22) = true)
    (a23 : PySem.W.nsIn K mainGlobals "_law_pool" = some (some (.ref f23)))
    (l23 : K.lookup f23 = some ⟨oc23, od23, .func (PySem.W.fnOf "_law_pool" "_law_pool" (defArgs s_law_pool) (defBody s_law_pool) (defScope s_law_pool) .none kV23 dc23 pm23 an23 cd23 ct23), sl23⟩)
    (c23 : PySem.W.codeIn K cd23 "_law_pool" = true)
    (k23 : PySem.W.keepIn K (.ref f23) = true)
    (a24 : PySem.W.nsIn K mainGlobals "_law_take" = some (some (.ref f24)))
    (l24 : K.lookup f24 = some ⟨oc24, od24, .func (PySem.W.fnOf "_law_take" "_law_take" (defArgs s_law_take) (defBody s_law_take) (defScope s_law_take) .none kV24 dc24 pm24 an24 cd24 ct24), sl24⟩)
    (c24 : PySem.W.codeIn K cd24 "_law_take" = true)
    (k24 : PySem.W.keepIn K (.ref f24) = true)
    (a25 : PySem.W.nsIn K mainGlobals "_law_links" = some (some (.ref f25)))
    (l25 : K.lookup f25 = some ⟨oc25, od25, .func (PySem.W.fnOf "_law_links" "_law_links" (defArgs s_law_links) (defBody s_law_links) (defScope s_law_links) .none kV25 dc25 pm25 an25 cd25 ct25), sl25⟩)
    (c25 : PySem.W.codeIn K cd25 "_law_links" = true)
    (k25 : PySem.W.keepIn K (.ref f25) = true)
    (a26 : PySem.W.nsIn K mainGlobals "_law_faces" = some (some (.ref f26)))
    (l26 : K.lookup f26 = some ⟨oc26, od26, .func (PySem.W.fnOf "_law_faces" "_law_faces" (defArgs s_law_faces) (defBody s_law_faces) (defScope s_law_faces) .none kV26 dc26 pm26 an26 cd26 ct26), sl26⟩)
    (c26 : PySem.W.codeIn K cd26 "_law_faces" = true)
    (k26 : PySem.W.keepIn K (.ref f26) = true)
    (a27 : PySem.W.nsIn K mainGlobals "_law_sides" = some (some (.ref f27)))
    (l27 : K.lookup f27 = some ⟨oc27, od27, .func (PySem.W.fnOf "_law_sides" "_law_sides" (defArgs s_law_sides) (defBody s_law_sides) (defScope s_law_sides) .none kV27 dc27 pm27 an27 cd27 ct27), sl27⟩)
    (c27 : PySem.W.codeIn K cd27 "_law_sides" = true)
    (k27 : PySem.W.keepIn K (.ref f27) = true)
    (a28 : PySem.W.nsIn K mainGlobals "_law_word" = some (some (.ref f28)))
    (l28 : K.lookup f28 = some ⟨oc28, od28, .func (PySem.W.fnOf "_law_word" "_law_word" (defArgs s_law_word) (defBody s_law_word) (defScope s_law_word) .none kV28 dc28 pm28 an28 cd28 ct28), sl28⟩)
    (c28 : PySem.W.codeIn K cd28 "_law_word" = true)
    (k28 : PySem.W.keepIn K (.ref f28) = true)
    (a29 : PySem.W.nsIn K mainGlobals "_law_named" = some (some (.ref f29)))
    (l29 : K.lookup f29 = some ⟨oc29, od29, .func (PySem.W.fnOf "_law_named" "_law_named" (defArgs s_law_named) (defBody s_law_named) (defScope s_law_named) .none kV29 dc29 pm29 an29 cd29 ct29), sl29⟩)
    (c29 : PySem.W.codeIn K cd29 "_law_named" = true)
    (k29 : PySem.W.keepIn K (.ref f29) = true)
    (a30 : PySem.W.nsIn K mainGlobals "_law_grid" = some (some (.ref f30)))
    (l30 : K.lookup f30 = some ⟨oc30, od30, .func (PySem.W.fnOf "_law_grid" "_law_grid" (defArgs s_law_grid) (defBody s_law_grid) (defScope s_law_grid) .none kV30 dc30 pm30 an30 cd30 ct30), sl30⟩)
    (c30 : PySem.W.codeIn K cd30 "_law_grid" = true)
    (k30 : PySem.W.keepIn K (.ref f30) = true)
    (a31 : PySem.W.nsIn K mainGlobals "_law_smoothed" = some (some (.ref f31)))
    (l31 : K.lookup f31 = some ⟨oc31, od31, .func (PySem.W.fnOf "_law_smoothed" "_law_smoothed" (defArgs s_law_smoothed) (defBody s_law_smoothed) (defScope s_law_smoothed) .none kV31 dc31 pm31 an31 cd31 ct31), sl31⟩)
    (c31 : PySem.W.codeIn K cd31 "_law_smoothed" = true)
    (k31 : PySem.W.keepIn K (.ref f31) = true)
    (a32 : PySem.W.nsIn K mainGlobals "_law_map" = some (some (.ref f32)))
    (l32 : K.lookup f32 = some ⟨oc32, od32, .func (PySem.W.fnOf "_law_map" "_law_map" (defArgs s_law_map) (defBody s_law_map) (defScope s_law_map) .none kV32 dc32 pm32 an32 cd32 ct32), sl32⟩)
    (c32 : PySem.W.codeIn K cd32 "_law_map" = true)
    (k32 : PySem.W.keepIn K (.ref f32) = true)
    (a33 : PySem.W.nsIn K mainGlobals "_law_free" = some (some (.ref f33)))
    (l33 : K.lookup f33 = some ⟨oc33, od33, .func (PySem.W.fnOf "_law_free" "_law_free" (defArgs s_law_free) (defBody s_law_free) (defScope s_law_free) .none kV33 dc33 pm33 an33 cd33 ct33), sl33⟩)
    (c33 : PySem.W.codeIn K cd33 "_law_free" = true)
    (k33 : PySem.W.keepIn K (.ref f33) = true)
    (a34 : PySem.W.nsIn K mainGlobals "_law_rules" = some (some (.ref f34)))
    (l34 : K.lookup f34 = some ⟨oc34, od34, .func (PySem.W.fnOf "_law_rules" "_law_rules" (defArgs s_law_rules) (defBody s_law_rules) (defScope s_law_rules) .none kV34 dc34 pm34 an34 cd34 ct34), sl34⟩)
    (c34 : PySem.W.codeIn K cd34 "_law_rules" = true)
    (k34 : PySem.W.keepIn K (.ref f34) = true)
    (a35 : PySem.W.nsIn K mainGlobals "_law_claim" = some (some (.ref f35)))
    (l35 : K.lookup f35 = some ⟨oc35, od35, .func (PySem.W.fnOf "_law_claim" "_law_claim" (defArgs s_law_claim) (defBody s_law_claim) (defScope s_law_claim) .none kV35 dc35 pm35 an35 cd35 ct35), sl35⟩)
    (c35 : PySem.W.codeIn K cd35 "_law_claim" = true)
    (k35 : PySem.W.keepIn K (.ref f35) = true)
    (a36 : PySem.W.nsIn K mainGlobals "_law_range" = some (some (.ref f36)))
    (l36 : K.lookup f36 = some ⟨oc36, od36, .func (PySem.W.fnOf "_law_range" "_law_range" (defArgs s_law_range) (defBody s_law_range) (defScope s_law_range) .none kV36 dc36 pm36 an36 cd36 ct36), sl36⟩)
    (c36 : PySem.W.codeIn K cd36 "_law_range" = true)
    (k36 : PySem.W.keepIn K (.ref f36) = true)
    (a37 : PySem.W.nsIn K mainGlobals "_law_narrowed" = some (some (.ref f37)))
    (l37 : K.lookup f37 = some ⟨oc37, od37, .func (PySem.W.fnOf "_law_narrowed" "_law_narrowed" (defArgs s_law_narrowed) (defBody s_law_narrowed) (defScope s_law_narrowed) .none kV37 dc37 pm37 an37 cd37 ct37), sl37⟩)
    (c37 : PySem.W.codeIn K cd37 "_law_narrowed" = true)
    (k37 : PySem.W.keepIn K (.ref f37) = true)
    (a38 : PySem.W.nsIn K mainGlobals "_law_cases" = some (some (.ref f38)))
    (l38 : K.lookup f38 = some ⟨oc38, od38, .func (PySem.W.fnOf "_law_cases" "_law_cases" (defArgs s_law_cases) (defBody s_law_cases) (defScope s_law_cases) .none kV38 dc38 pm38 an38 cd38 ct38), sl38⟩)
    (c38 : PySem.W.codeIn K cd38 "_law_cases" = true)
    (k38 : PySem.W.keepIn K (.ref f38) = true)
    (a39 : PySem.W.nsIn K mainGlobals "_law_same" = some (some (.ref f39)))
    (l39 : K.lookup f39 = some ⟨oc39, od39, .func (PySem.W.fnOf "_law_same" "_law_same" (defArgs s_law_same) (defBody s_law_same) (defScope s_law_same) .none kV39 dc39 pm39 an39 cd39 ct39), sl39⟩)
    (c39 : PySem.W.codeIn K cd39 "_law_same" = true)
    (k39 : PySem.W.keepIn K (.ref f39) = true)
    (a40 : PySem.W.nsIn K mainGlobals "_law_asked" = some (some (.ref f40)))
    (l40 : K.lookup f40 = some ⟨oc40, od40, .func (PySem.W.fnOf "_law_asked" "_law_asked" (defArgs s_law_asked) (defBody s_law_asked) (defScope s_law_asked) .none kV40 dc40 pm40 an40 cd40 ct40), sl40⟩)
    (c40 : PySem.W.codeIn K cd40 "_law_asked" = true)
    (k40 : PySem.W.keepIn K (.ref f40) = true)
    (a41 : PySem.W.nsIn K mainGlobals "_law_claims" = some (some (.ref f41)))
    (l41 : K.lookup f41 = some ⟨oc41, od41, .func (PySem.W.fnOf "_law_claims" "_law_claims" (defArgs s_law_claims) (defBody s_law_claims) (defScope s_law_claims) .none kV41 dc41 pm41 an41 cd41 ct41), sl41⟩)
    (c41 : PySem.W.codeIn K cd41 "_law_claims" = true)
    (k41 : PySem.W.keepIn K (.ref f41) = true)
    (a42 : PySem.W.nsIn K mainGlobals "_law_turned" = some (some (.ref f42)))
    (l42 : K.lookup f42 = some ⟨oc42, od42, .func (PySem.W.fnOf "_law_turned" "_law_turned" (defArgs s_law_turned) (defBody s_law_turned) (defScope s_law_turned) .none kV42 dc42 pm42 an42 cd42 ct42), sl42⟩)
    (c42 : PySem.W.codeIn K cd42 "_law_turned" = true)
    (k42 : PySem.W.keepIn K (.ref f42) = true)
    (a43 : PySem.W.nsIn K mainGlobals "law" = some (some (.ref f43)))
    (l43 : K.lookup f43 = some ⟨oc43, od43, .func (PySem.W.fnOf "law" "law" (defArgs s_law) (defBody s_law) (defScope s_law) .none kV43 dc43 pm43 an43 cd43 ct43), sl43⟩)
    (c43 : PySem.W.codeIn K cd43 "law" = true)
    (k43 : PySem.W.keepIn K (.ref f43) = true) :
    ∃ fd : FuncData, (∀ (s : Shared) (v : Value), BindsTo s fd ⟨[v], []⟩ [("script", v)]) ∧ ∀ base : Heap, K.In base → base.Ns mainGlobals mg → FnOk l.prog w K mg base CX0 12 fa fd ["script"] (spLaw K l.prog w) := by
  have e := hfa.symm.trans (PySem.W.mg_of X G a43)
  cases e
  let T : Txt K mg := {
    n_abs := PySem.W.mg_none_of X G n_abs
    n_bool := PySem.W.mg_none_of X G n_bool
    n_int := PySem.W.mg_none_of X G n_int
    n_isinstance := PySem.W.mg_none_of X G n_isinstance
    n_len := PySem.W.mg_none_of X G n_len
    n_list := PySem.W.mg_none_of X G n_list
    n_max := PySem.W.mg_none_of X G n_max
    n_min := PySem.W.mg_none_of X G n_min
    n_range := PySem.W.mg_none_of X G n_range
    n_sorted := PySem.W.mg_none_of X G n_sorted
    n_str := PySem.W.mg_none_of X G n_str
    n_tuple := PySem.W.mg_none_of X G n_tuple
    g_SWING_MOST := ⟨_, PySem.W.mg_of X G g_SWING_MOST⟩
    d_turn_table := dfOf X G a0 l0 c0 k0 fun _ _ _ _ _ _ us hl => match us, hl with | [_], _ => rfl
    d_names_of := dfOf X G a1 l1 c1 k1 fun _ _ _ _ _ _ us hl => match us, hl with | [_], _ => rfl
    d_dart_list := dfOf X G a2 l2 c2 k2 fun _ _ _ _ _ _ us hl => match us, hl with | [_], _ => rfl
    d_link_list := dfOf X G a3 l3 c3 k3 fun _ _ _ _ _ _ us hl => match us, hl with | [_], _ => rfl
    d_link_of := dfOf X G a4 l4 c4 k4 fun _ _ _ _ _ _ us hl => match us, hl with | [_, _], _ => rfl
    d_are_neighbours := dfOf X G a5 l5 c5 k5 fun _ _ _ _ _ _ us hl => match us, hl with | [_, _, _], _ => rfl
    d_dart_or_raise := dfOf X G a6 l6 c6 k6 fun _ _ _ _ _ _ us hl => match us, hl with | [_, _, _], _ => rfl
    d_corner_place := dfOf X G a7 l7 c7 k7 fun _ _ _ _ _ _ us hl => match us, hl with | [_, _, _], _ => rfl
    d_link_place := dfOf X G a8 l8 c8 k8 fun _ _ _ _ _ _ us hl => match us, hl with | [_, _, _], _ => rfl
    d_corner_rule := dfOf X G a9 l9 c9 k9 fun _ _ _ _ _ _ us hl => match us, hl with | [_, _, _, _], _ => rfl
    d_turned_bounds := dfOf X G a10 l10 c10 k10 fun _ _ _ _ _ _ us hl => match us, hl with | [_, _, _, _], _ => rfl
    d_swing_rule := dfOf X G a11 l11 c11 k11 fun _ _ _ _ _ _ us hl => match us, hl with | [_, _, _, _], _ => rfl
    d_put_at := dfOf X G a12 l12 c12 k12 fun _ _ _ _ _ _ us hl => match us, hl with | [_, _, _], _ => rfl
    d_corner_put := dfOf X G a13 l13 c13 k13 fun _ _ _ _ _ _ us hl => match us, hl with | [_, _, _, _, _], _ => rfl
    d_swing_put := dfOf X G a14 l14 c14 k14 fun _ _ _ _ _ _ us hl => match us, hl with | [_, _, _, _, _, _], _ => rfl
    d_rule_of := dfOf X G a15 l15 c15 k15 fun _ _ _ _ _ _ us hl => match us, hl with | [_, _, _], _ => rfl
    d_narrowed := dfOf X G a16 l16 c16 k16 fun _ _ _ _ _ _ us hl => match us, hl with | [_, _, _, _, _], _ => rfl
    d_claim_narrowed := dfOf X G a17 l17 c17 k17 fun _ _ _ _ _ _ us hl => match us, hl with | [_, _, _], _ => rfl
    d_ask_list := dfOf X G a18 l18 c18 k18 fun _ _ _ _ _ _ us hl => match us, hl with | [_, _], _ => rfl
    d_case_list := dfOf X G a19 l19 c19 k19 fun _ _ _ _ _ _ us hl => match us, hl with | [_, _], _ => rfl
    d_denial_list := dfOf X G a20 l20 c20 k20 fun _ _ _ _ _ _ us hl => match us, hl with | [_, _], _ => rfl
    d_cases_of := dfOf X G a21 l21 c21 k21 fun _ _ _ _ _ _ us hl => match us, hl with | [_, _], _ => rfl
    d_denial_cases := dfOf X G a22 l22 c22 k22 fun _ _ _ _ _ _ us hl => match us, hl with | [_, _], _ => rfl
    d_law_pool := dfOf X G a23 l23 c23 k23 fun _ _ _ _ _ _ us hl => match us, hl with | [_], _ => rfl
    d_law_take := dfOf X G a24 l24 c24 k24 fun _ _ _ _ _ _ us hl => match us, hl with | [_, _], _ => rfl
    d_law_links := dfOf X G a25 l25 c25 k25 fun _ _ _ _ _ _ us hl => match us, hl with | [_], _ => rfl
    d_law_faces := dfOf X G a26 l26 c26 k26 fun _ _ _ _ _ _ us hl => match us, hl with | [_], _ => rfl
    d_law_sides := dfOf X G a27 l27 c27 k27 fun _ _ _ _ _ _ us hl => match us, hl with | [_], _ => rfl
    d_law_word := dfOf X G a28 l28 c28 k28 fun _ _ _ _ _ _ us hl => match us, hl with | [_, _], _ => rfl
    d_law_named := dfOf X G a29 l29 c29 k29 fun _ _ _ _ _ _ us hl => match us, hl with | [_, _, _], _ => rfl
    d_law_grid := dfOf X G a30 l30 c30 k30 fun _ _ _ _ _ _ us hl => match us, hl with | [_, _, _, _], _ => rfl
    d_law_smoothed := dfOf X G a31 l31 c31 k31 fun _ _ _ _ _ _ us hl => match us, hl with | [_, _], _ => rfl
    d_law_map := dfOf X G a32 l32 c32 k32 fun _ _ _ _ _ _ us hl => match us, hl with | [_, _], _ => rfl
    d_law_free := dfOf X G a33 l33 c33 k33 fun _ _ _ _ _ _ us hl => match us, hl with | [_], _ => rfl
    d_law_rules := dfOf X G a34 l34 c34 k34 fun _ _ _ _ _ _ us hl => match us, hl with | [_, _], _ => rfl
    d_law_claim := dfOf X G a35 l35 c35 k35 fun _ _ _ _ _ _ us hl => match us, hl with | [_, _], _ => rfl
    d_law_range := dfOf X G a36 l36 c36 k36 fun _ _ _ _ _ _ us hl => match us, hl with | [_, _, _], _ => rfl
    d_law_narrowed := dfOf X G a37 l37 c37 k37 fun _ _ _ _ _ _ us hl => match us, hl with | [_, _, _, _, _], _ => rfl
    d_law_cases := dfOf X G a38 l38 c38 k38 fun _ _ _ _ _ _ us hl => match us, hl with | [_, _, _], _ => rfl
    d_law_same := dfOf X G a39 l39 c39 k39 fun _ _ _ _ _ _ us hl => match us, hl with | [_, _], _ => rfl
    d_law_asked := dfOf X G a40 l40 c40 k40 fun _ _ _ _ _ _ us hl => match us, hl with | [_, _, _], _ => rfl
    d_law_claims := dfOf X G a41 l41 c41 k41 fun _ _ _ _ _ _ us hl => match us, hl with | [_, _, _], _ => rfl
    d_law_turned := dfOf X G a42 l42 c42 k42 fun _ _ _ _ _ _ us hl => match us, hl with | [_, _], _ => rfl
    d_law := dfOf X G a43 l43 c43 k43 fun _ _ _ _ _ _ us hl => match us, hl with | [_], _ => rfl }
  exact ⟨_, fun s v => .of_eq rfl, fun base _ _ => ok_law (P := l.prog) (w := w) (base := base) T⟩
theorem walk {l : PySem.W.OpenLaw} {q : Program} {loose : List Str} {XP : (Str → Option Value) → Heap → Prop} {YP : World → Heap → Prop} {d : DefRec} {K : Params → PySem.W.Frag} (hn : l.most = some 63) (hdf : d.params.defaults = [])
    (hY : ∀ (w : World) (h : Heap), YP w h → (K w.params).In h)
    (F : ∀ (w : World) (mg : Str → Option Value) (fa : Addr) (h : Heap), (K w.params).In h → h.Ns mainGlobals mg → mg d.name = some (.ref fa) →
      ∃ fd : FuncData, (∀ (s : Shared) (u : Value), BindsTo s fd ⟨[u], []⟩ [("script", u)]) ∧ ∀ base : Heap, (K w.params).In base → base.Ns mainGlobals mg → FnOk l.prog w (K w.params) mg base CX0 12 fa fd ["script"] (spLaw (K w.params) l.prog w)) :
    PySem.W.WalkO q loose XP YP l.row.toRowW d [] (fun f vs => PySem.call f vs) :=
  L2.walk_of (n := 63) (k := 12) (x := "script") (CX := fun _ => CX0) (sp := fun w => spLaw (K w.params) l.prog w) hn (by decide) hdf ⟨rfl, by decide, by decide⟩ hY F (fun _ _ a ns hl _ hS => ⟨a, ns, rfl, hS, hl, law_true hl, fun _ => rfl⟩) fun _ _ _ _ _ z => z
end K28
open PySem PySem.W PyProof.Rows in
set_option maxRecDepth 100000 in
set_option maxHeartbeats 0 in
theorem PySem.Challenge.cw_fewestbends_k28_cases_holds : PySem.Challenge.rw_fewestbends_k28_cases.Holds := by
  w_on; o_law; k_head; (case hw => w_witness2)
  k_fill
  refine K28.walk (l := PySem.Challenge.rw_fewestbends_k28_cases) rfl rfl (fun w h Y => PySem.W.kIn_of Y) ?F
  case F =>
    intro w mg fa h KX G hmg
    refine' K28.all_mk KX G hmg ?n_abs ?n_bool ?n_int ?n_isinstance ?n_len ?n_list ?n_max ?n_min ?n_range ?n_sorted ?n_str ?n_tuple ?g_SWING_MOST ?a0 ?l0 ?c0 ?k0 ?a1 ?l1 ?c1 ?k1 ?a2 ?l2 ?c2 ?k2 ?a3 ?l3 ?c3 ?k3 ?a4 ?l4 ?c4 ?k4 ?a5 ?l5 ?c5 ?k5 ?a6 ?l6 ?c6 ?k6 ?a7 ?l7 ?c7 ?k7 ?a8 ?l8 ?c8 ?k8 ?a9 ?l9 ?c9 ?k9 ?a10 ?l10 ?c10 ?k10 ?a11 ?l11 ?c11 ?k11 ?a12 ?l12 ?c12 ?k12 ?a13 ?l13 ?c13 ?k13 ?a14 ?l14 ?c14 ?k14 ?a15 ?l15 ?c15 ?k15 ?a16 ?l16 ?c16 ?k16 ?a17 ?l17 ?c17 ?k17 ?a18 ?l18 ?c18 ?k18 ?a19 ?l19 ?c19 ?k19 ?a20 ?l20 ?c20 ?k20 ?a21 ?l21 ?c21 ?k21 ?a22 ?l22 ?c22 ?k22 ?a23 ?l23 ?c23 ?k23 ?a24 ?l24 ?c24 ?k24 ?a25 ?l25 ?c25 ?k25 ?a26 ?l26 ?c26 ?k26 ?a27 ?l27 ?c27 ?k27 ?a28 ?l28 ?c28 ?k28 ?a29 ?l29 ?c29 ?k29 ?a30 ?l30 ?c30 ?k30 ?a31 ?l31 ?c31 ?k31 ?a32 ?l32 ?c32 ?k32 ?a33 ?l33 ?c33 ?k33 ?a34 ?l34 ?c34 ?k34 ?a35 ?l35 ?c35 ?k35 ?a36 ?l36 ?c36 ?k36 ?a37 ?l37 ?c37 ?k37 ?a38 ?l38 ?c38 ?k38 ?a39 ?l39 ?c39 ?k39 ?a40 ?l40 ?c40 ?k40 ?a41 ?l41 ?c41 ?k41 ?a42 ?l42 ?c42 ?k42 ?a43 ?l43 ?c43 ?k43
    (case n_abs => k_is)
    (case n_bool => k_is)
    (case n_int => k_is)
    (case n_isinstance => k_is)
    (case n_len => k_is)
    (case n_list => k_is)
    (case n_max => k_is)
    (case n_min => k_is)
    (case n_range => k_is)
    (case n_sorted => k_is)
    (case n_str => k_is)
    (case n_tuple => k_is)
    (case g_SWING_MOST => k_is)
    (case a0 => k_is)
    (case l0 => k_is)
    (case c0 => k_is)
    (case k0 => k_is)
    (case a1 => k_is)
    (case l1 => k_is)
    (case c1 => k_is)
    (case k1 => k_is)
    (case a2 => k_is)
    (case l2 => k_is)
    (case c2 => k_is)
    (case k2 => k_is)
    (case a3 => k_is)
    (case l3 => k_is)
    (case c3 => k_is)
    (case k3 => k_is)
    (case a4 => k_is)
    (case l4 => k_is)
    (case c4 => k_is)
    (case k4 => k_is)
    (case a5 => k_is)
    (case l5 => k_is)
    (case c5 => k_is)
    (case k5 => k_is)
    (case a6 => k_is)
    (case l6 => k_is)
    (case c6 => k_is)
    (case k6 => k_is)
    (case a7 => k_is)
    (case l7 => k_is)
    (case c7 => k_is)
    (case k7 => k_is)
    (case a8 => k_is)
    (case l8 => k_is)
    (case c8 => k_is)
    (case k8 => k_is)
    (case a9 => k_is)
    (case l9 => k_is)
    (case c9 => k_is)
    (case k9 => k_is)
    (case a10 => k_is)
    (case l10 => k_is)
    (case c10 => k_is)
    (case k10 => k_is)
    (case a11 => k_is)
    (case l11 => k_is)
    (case c11 => k_is)
    (case k11 => k_is)
    (case a12 => k_is)
    (case l12 => k_is)
    (case c12 => k_is)
    (case k12 => k_is)
    (case a13 => k_is)
    (case l13 => k_is)
    (case c13 => k_is)
    (case k13 => k_is)
    (case a14 => k_is)
    (case l14 => k_is)
    (case c14 => k_is)
    (case k14 => k_is)
    (case a15 => k_is)
    (case l15 => k_is)
    (case c15 => k_is)
    (case k15 => k_is)
    (case a16 => k_is)
    (case l16 => k_is)
    (case c16 => k_is)
    (case k16 => k_is)
    (case a17 => k_is)
    (case l17 => k_is)
    (case c17 => k_is)
    (case k17 => k_is)
    (case a18 => k_is)
    (case l18 => k_is)
    (case c18 => k_is)
    (case k18 => k_is)
    (case a19 => k_is)
    (case l19 => k_is)
    (case c19 => k_is)
    (case k19 => k_is)
    (case a20 => k_is)
    (case l20 => k_is)
    (case c20 => k_is)
    (case k20 => k_is)
    (case a21 => k_is)
    (case l21 => k_is)
    (case c21 => k_is)
    (case k21 => k_is)
    (case a22 => k_is)
    (case l22 => k_is)
    (case c22 => k_is)
    (case k22 => k_is)
    (case a23 => k_is)
    (case l23 => k_is)
    (case c23 => k_is)
    (case k23 => k_is)
    (case a24 => k_is)
    (case l24 => k_is)
    (case c24 => k_is)
    (case k24 => k_is)
    (case a25 => k_is)
    (case l25 => k_is)
    (case c25 => k_is)
    (case k25 => k_is)
    (case a26 => k_is)
    (case l26 => k_is)
    (case c26 => k_is)
    (case k26 => k_is)
    (case a27 => k_is)
    (case l27 => k_is)
    (case c27 => k_is)
    (case k27 => k_is)
    (case a28 => k_is)
    (case l28 => k_is)
    (case c28 => k_is)
    (case k28 => k_is)
    (case a29 => k_is)
    (case l29 => k_is)
    (case c29 => k_is)
    (case k29 => k_is)
    (case a30 => k_is)
    (case l30 => k_is)
    (case c30 => k_is)
    (case k30 => k_is)
    (case a31 => k_is)
    (case l31 => k_is)
    (case c31 => k_is)
    (case k31 => k_is)
    (case a32 => k_is)
    (case l32 => k_is)
    (case c32 => k_is)
    (case k32 => k_is)
    (case a33 => k_is)
    (case l33 => k_is)
    (case c33 => k_is)
    (case k33 => k_is)
    (case a34 => k_is)
    (case l34 => k_is)
    (case c34 => k_is)
    (case k34 => k_is)
    (case a35 => k_is)
    (case l35 => k_is)
    (case c35 => k_is)
    (case k35 => k_is)
    (case a36 => k_is)
    (case l36 => k_is)
    (case c36 => k_is)
    (case k36 => k_is)
    (case a37 => k_is)
    (case l37 => k_is)
    (case c37 => k_is)
    (case k37 => k_is)
    (case a38 => k_is)
    (case l38 => k_is)
    (case c38 => k_is)
    (case k38 => k_is)
    (case a39 => k_is)
    (case l39 => k_is)
    (case c39 => k_is)
    (case k39 => k_is)
    (case a40 => k_is)
    (case l40 => k_is)
    (case c40 => k_is)
    (case k40 => k_is)
    (case a41 => k_is)
    (case l41 => k_is)
    (case c41 => k_is)
    (case k41 => k_is)
    (case a42 => k_is)
    (case l42 => k_is)
    (case c42 => k_is)
    (case k42 => k_is)
    (case a43 => k_is)
    (case l43 => k_is)
    (case c43 => k_is)
    (case k43 => k_is)
#print axioms PySem.Challenge.cw_fewestbends_k28_cases_holds
