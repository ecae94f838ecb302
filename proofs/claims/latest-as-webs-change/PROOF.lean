import PyProof.Rows.All
import Wide.All
import OpenK.AllK
import Wide.FinOn
import KE.KStateDown
import KE.KSortTupG
import KE.DataMinMax
import Lean
import HandS.ForMost
import HandS.ForExc
import HandS.More
import HandS.Style
import HandS.Deep
import HandS.TupAny
import HandS.Zip
import HandS.Wide
import HandS.TupSets
import HandS.Conv
import HandS.SortKw
import HandS.Walk
import HandS.DictTup
import HandS.Defaults
import HandS.Words
import PySem.Challenge.RW_whenmeet_k24_whole_latest_as_webs_change
import HandS.Base
import HandS.Call
import HandS.Ends
import HandS.WordsExc
import HandS.Head0
import HandS.Head1
import HandS.Head2
import HandS.HeadEnd
import HandS.HeadHook1
import HandS.HeadHook2
section
set_option Elab.async false
set_option linter.all false
set_option maxRecDepth 100000
set_option maxHeartbeats 4000000
/-! Rules of our own: sorted of tuples of ints (any sign), of a dict with such keys. -/
namespace Wm
open PySem PySem.Spec PyProof.Rows L2
abbrev noTxt : Nat → Bool := fun _ => false
theorem items_inl {vs : List Value} {ns : List Int} (h : IntsAre vs ns) : ∀ i, tupItems noTxt i vs = some (ns.map Sum.inl) := by
  induction h with
  | nil => intro i; rfl
  | cons n t _ ih =>
    intro i
    show (if noTxt i = true then none else (tupItems noTxt (i + 1) _).map (Sum.inl n :: ·)) = _
    rw [if_neg Bool.false_ne_true, ih]
    rfl
theorem key_inl {h : Heap} {v : Value} {ns : List Int} (x : TS.TupInts h v ns) : G.tupKeyC h noTxt v = some (ns.map Sum.inl) := by
  obtain ⟨a, xs, rfl, ⟨⟨oc, od, dt, sl⟩, ho, hc, n, hd⟩, i⟩ := x
  simp only at hc hd
  subst hc hd
  unfold G.tupKeyC G.isTupObj tupKey
  simp only [ho]
  rw [if_pos (by decide)]
  exact items_inl i 0
theorem tup_first {h : Heap} {v : Value} {a : Int} {r : List Int} (x : TS.TupInts h v (a :: r)) : ∃ f, TupOf h noTxt v f := by
  obtain ⟨p, xs, rfl, ⟨o, ho, hc, n, hd⟩, i⟩ := x
  obtain ⟨u, rest, e⟩ : ∃ u rest, xs.toList = u :: rest := by
    cases q : xs.toList with
    | nil => rw [q] at i; cases i
    | cons u rest => exact ⟨u, rest, rfl⟩
  rw [e] at i
  cases i with
  | cons _ t _ =>
    refine ⟨_, p, o, xs, n, rfl, ho, hc, hd, ?_, fun _ => ⟨a, t, rfl⟩, fun z => by cases z⟩
    rw [← Array.getElem?_toList, e]
    rfl
theorem tups_first {h : Heap} : ∀ {vs : List Value}, (∀ v ∈ vs, ∃ a r, TS.TupInts h v (a :: r)) → ∃ fs, TupsOf h noTxt vs fs
  | [], _ => ⟨[], .nil⟩
  | v :: vs, x => by
    obtain ⟨a, r, t⟩ := x v List.mem_cons_self
    obtain ⟨f, hf⟩ := tup_first t
    obtain ⟨fs, hfs⟩ := tups_first fun u hu => x u (List.mem_cons_of_mem _ hu)
    exact ⟨f :: fs, .cons hf hfs⟩
abbrev byHead (h : Heap) (u v : Value) : Prop := ∀ a r b q, TS.TupInts h u (a :: r) → TS.TupInts h v (b :: q) → a ≤ b
theorem out_pair {h : Heap} {arr : Array Keyed} {vs : List Value} (hp : arr.Perm (pairsOf vs)) (hs : SortedToK (G.tupKindC h noTxt) arr (pairsOf vs).size) :
    (arr.map (·.2)).toList.Perm vs ∧ (arr.map (·.2)).toList.Pairwise (byHead h) := by
  have hl : arr.toList.Perm (vs.zip vs) := by
    have z := Array.perm_iff_toList_perm.mp hp
    rw [pairsOf_toList] at z
    exact z
  have same : ∀ p ∈ arr.toList, p.1 = p.2 := fun p m => (mem_zip_self (hl.mem_iff.mp m)).1
  refine ⟨?_, ?_⟩
  · rw [Array.toList_map]
    have z := hl.map Prod.snd
    rw [List.map_snd_zip (Nat.le_refl _)] at z
    exact z
  · rw [Array.toList_map, List.pairwise_map, List.pairwise_iff_getElem]
    intro i j hi hj hij a r b q t1 t2
    have sz : arr.size = (pairsOf vs).size := hp.size_eq
    have hj' : j < (pairsOf vs).size := by rw [← sz]; simpa using hj
    have kk : ∀ (m : Nat) (hm : m < arr.toList.length) (ns : List Int), TS.TupInts h (arr.toList[m]).2 ns → KK (G.tupKindC h noTxt) arr m = ns.map Sum.inl := by
      intro m hm ns t
      have e : arr[m]? = some arr.toList[m] := by rw [← Array.getElem?_toList, List.getElem?_eq_getElem hm]
      rw [← same _ (List.getElem_mem hm)] at t
      unfold KK
      rw [e]
      show ((G.tupKeyC h noTxt (arr.toList[m]).1).getD _) = _
      rw [key_inl t]
      rfl
    have le := hs i j (Nat.le_of_lt hij) hj'
    rw [kk i hi _ t1, kk j hj _ t2] at le
    have le' : PyProof.Rows.lexLt itemOrd (Sum.inl b :: q.map Sum.inl) (Sum.inl a :: r.map Sum.inl) = false := le
    have := (lex_false.mp le').1
    have h3 : decide (b < a) = false := this
    have := of_decide_eq_false h3
    omega
section
variable {prog : Program} {w : World} {A : Around} {E : Value → Shared → Prop} {s : Shared}
/-- the heap behind collect of a list or a tuple -/
abbrev gatherHeap (h : Heap) (vs : List Value) : Heap := (h.push (seqObj "list" #[] 0)).update h.objs.size (Obj.mapSeq (· ++ vs.toArray))
theorem gather_tup {l : Addr} {vs : List Value} {Q : List Value → Shared → Prop} (ht : IsTup s.heap l vs.toArray) (hz : vs.length ≤ sizeLine) (h : Q vs { s with heap := gatherHeap s.heap vs }) : wpAny (model prog w) A (collect (.ref l)) Q E s := by
  obtain ⟨o, ho, hc, n, hd⟩ := id ht
  unfold collect
  refine wpAny_bind (wpAny_runValue (codeAny_builtin F.entry_proto_collect ?_))
  show wpAny _ _ (do again (.builtin "list.__iadd__" ⟨[← newList [], .ref l], []⟩)) _ _ s
  refine wpAny_bind (wpAny_newList (wpAny_pure ⟨Code.quiet_builtin _ (by decide +kernel), codeAny_builtin F.entry_list_iadd ?_⟩))
  show wpAny _ _ (Builtin.List.listExtendWith (.ref s.heap.objs.size) (.ref l) (.ref s.heap.objs.size)) _ _ { s with heap := s.heap.push (seqObj "list" #[] 0) }
  have old : (s.heap.push (seqObj "list" #[] 0)).get? l = some o := Heap.get?_push_of_some _ ho
  have own : (s.heap.push (seqObj "list" #[] 0)).get? s.heap.objs.size = some (seqObj "list" #[] 0) := Heap.get?_push_size _ rfl
  unfold Builtin.List.listExtendWith
  refine wpAny_bind (wpAny_typeOf (T := "tuple") ⟨o, old, hc⟩ ?_)
  have yes : (Value.type "tuple" == Value.type "tuple") = true := by rfl
  rw [if_pos (by rw [yes]; simp)]
  refine wpAny_bind (listItems_at old hd ?_)
  refine wpAny_bind (listItems_at (xs := #[]) (n := 0) own rfl ?_)
  rw [if_neg (by simp)]
  refine wpAny_bind (listUpdate_at (xs := #[]) (n := 0) own rfl ?_ (Nat.zero_le _) (by
    show (#[] ++ vs.toArray).size ≤ sizeLine + 1
    simp only [Array.size_append, List.size_toArray, List.length_nil]
    omega))
  refine wpAny_pure ?_
  show wpAny (model prog w) A (load s.heap.objs.size >>= _) Q E { s with heap := gatherHeap s.heap vs }
  refine wpAny_bind (wpAny_load (get?_update_seq own _) ?_)
  show wpAny _ _ (pure ((#[] : Array Value) ++ vs.toArray).toList) Q E _
  have e : ((#[] : Array Value) ++ vs.toArray).toList = vs := by simp
  rw [e]
  exact wpAny_pure h
/-- sorted of tuples of ints, however they are gathered -/
theorem sorted_gathered {l : Addr} {vs : List Value} {Q : Value → Shared → Prop} (hz : vs.length ≤ sizeLine) (hg : ∀ {A : Around} {Q : List Value → Shared → Prop}, Q vs { s with heap := gatherHeap s.heap vs } → wpAny (model prog w) A (collect (.ref l)) Q E s)
    (tups : ∀ v ∈ vs, ∃ n r, TS.TupInts s.heap v (n :: r)) (h : ∀ out : Array Value, out.toList.Perm vs → out.toList.Pairwise (byHead s.heap) → Q (.ref (s.heap.objs.size + 1)) { s with heap := sortedAll s.heap vs out }) :
    wpAny (model prog w) A (call (.builtin "sorted") [.ref l]) Q E s := by
  refine Calls.call_function_entry kind_sorted plain_sorted entry_sorted (args_sorted1 _) ?_
  unfold Builtin.«sorted»
  refine wpAny_bind (m := checkCount "sorted" 1 1 _) (wpAny_pure ?_)
  refine wpAny_bind (hg ?_)
  refine wpAny_bind (wpAny_newList ?_ hz)
  have size1 : (gatherHeap s.heap vs).objs.size = s.heap.objs.size + 1 := by rw [Heap.size_update, size_push']
  have own : (s.heap.push (seqObj "list" #[] 0)).get? s.heap.objs.size = some (seqObj "list" #[] 0) := Heap.get?_push_size _ rfl
  have hoL : ((gatherHeap s.heap vs).push (seqObj "list" vs.toArray 0)).get? (s.heap.objs.size + 1) = some (seqObj "list" vs.toArray 0) := by
    rw [← size1]
    exact Heap.get?_push_size _ rfl
  have kt : G.KeepsTups s.heap ((gatherHeap s.heap vs).push (seqObj "list" vs.toArray 0)) := ((G.KeepsTups.push _ _).trans (G.KeepsTups.update _ own G.not_tuple_list)).trans (G.KeepsTups.push _ _)
  show wpAny _ _ _ _ _ { s with heap := (gatherHeap s.heap vs).push (seqObj "list" vs.toArray 0) }
  rw [size1]
  have tups2 : ∀ v ∈ vs, ∃ n r, TS.TupInts ((gatherHeap s.heap vs).push (seqObj "list" vs.toArray 0)) v (n :: r) := fun v hv => by
    obtain ⟨n, r, t⟩ := tups v hv
    exact ⟨n, r, t.keeps kt⟩
  obtain ⟨fs, hfs⟩ := tups_first tups2
  refine wpAny_bind (wpAny_holding (wpAny_call_entry slot_list_sort ⟨_, hoL, rfl⟩ entry_list_sort
    (G.list_sort_tups (s := { s with heap := (gatherHeap s.heap vs).push (seqObj "list" vs.toArray 0) }) (shape := noTxt) (fs := fs) hoL hfs (fun v hv => ?_) hz fun st' g1 g2 _ => ⟨_, rfl, ?_⟩) (args_list_sort _)))
  · obtain ⟨n, r, t⟩ := tups2 v hv
    exact ⟨_, key_inl t⟩
  obtain ⟨h1, h2⟩ := out_pair g1 g2
  refine wpAny_pure ⟨_, rfl, h _ h1 ?_⟩
  exact List.Pairwise.imp (fun {u v} huv a r b q t1 t2 => huv a r b q (t1.keeps kt) (t2.keeps kt)) h2
end
section
variable {X : Cx}
/-- what is sorted: a list or a tuple of tuples of ints, none empty -/
def rSort3 (K : PySem.W.Frag) : List V → Hp → VK → Prop := fun vs H Q => ∃ (a : Addr) (xs : List V), vs = [V.ref a] ∧ (SqL K H a xs ∨ SqT K H a xs) ∧ (∀ x ∈ xs, ∃ n r, TupI K H x (n :: r)) ∧
  ∀ (ys : List V) (p : Addr), ys.Perm xs → ys.Pairwise (fun x y => ∀ n r m q, TupI K H x (n :: r) → TupI K H y (m :: q) → n ≤ m) → H p = none → Q (.ref p) (upd H p (.lst ys))
theorem cr_sort3 : CallR X (.builtin "sorted") (rSort3 X.K) := by
  intro pins s σ H vs us Q I r h
  obtain ⟨a, xs, rfl, hs, hx, q⟩ := h
  obtain ⟨its, rv, hz, hg⟩ : ∃ its : List Value, Vals xs its ∧ xs.length ≤ sizeLine ∧ ∀ {A : Around} {E : Value → Shared → Prop} {Q : List Value → Shared → Prop}, Q its { s with heap := gatherHeap s.heap its } → wpAny (model X.prog X.w) A (collect (.ref a)) Q E s := by
    rcases hs with hs | hs
    · obtain ⟨its, rv, hl, hz⟩ := I.list hs
      exact ⟨its, rv, hz, fun {A E Q} q => collect_list hl.isList q (by rw [← rv.length]; exact hz)⟩
    · obtain ⟨its, rv, hl, hz⟩ := I.tuple hs
      exact ⟨its, rv, hz, fun {A E Q} q => gather_tup hl (by rw [← rv.length]; exact hz) q⟩
  rw [Vals.ref1 r]
  obtain ⟨e1, e2⟩ := bkV_refs rv fun x m => by
    obtain ⟨n, r, t, e, _⟩ := hx x m
    exact ⟨t, e⟩
  have tups : ∀ v ∈ its, ∃ n r, TS.TupInts s.heap v (n :: r) := fun v hv => by
    obtain ⟨t, rfl⟩ := e2 v hv
    have hm : V.ref t ∈ xs := by rw [e1]; exact List.mem_map.mpr ⟨_, hv, rfl⟩
    obtain ⟨n, r, t', e, ht⟩ := hx _ hm
    cases e
    exact ⟨n, r, tupI_raw I ht⟩
  refine sorted_gathered (by rw [← rv.length]; exact hz) (fun {A Q} q => hg q) tups fun out h1 h2 => ?_
  obtain ⟨ep, he'⟩ := PyProof.Rows.sortedAll_at s.heap its out
  have h3 : ∀ u ∈ out.toList, ∃ a, u = Value.ref a := fun u hu => e2 u (h1.mem_iff.mp hu)
  have hp : (out.toList.map bkV).Perm xs := by
    rw [e1]
    exact h1.map bkV
  have hlen : (out.toList.map bkV).length ≤ sizeLine := by
    rw [hp.length_eq]
    exact hz
  refine ⟨.ref _, upd H (s.heap.objs.size + 1) (.lst (out.toList.map bkV)), I.laid (t' := s.toks) (fun _ _ => PyProof.Rows.sortedAll_old) (Nat.le_succ _) ⟨hlen, out.toList, ep, bkV_vals h3, he'⟩, rfl, q _ _ hp ?_ (I.hok.fresh (Nat.le_succ _))⟩
  rw [List.pairwise_map]
  refine List.Pairwise.imp (fun {u v} huv n r m q hn hm => ?_) h2
  obtain ⟨t, et, ht⟩ := hn
  obtain ⟨t', et', ht'⟩ := hm
  refine huv n r m q ?_ ?_
  · rw [bkV_ref et]; exact tupI_raw I ht
  · rw [bkV_ref et']; exact tupI_raw I ht'
/-- sorted(d), d a dict whose keys are tuples of ints: a new list of the key tuples, in some order -/
def rSortD3 : List V → Hp → VK → Prop := fun vs H Q => ∃ (d : Addr) (kvs : List (List Key × V)), vs = [V.ref d] ∧ Rd H d (.dT kvs) ∧ (∀ p ∈ kvs, ∃ ns : List Int, ns ≠ [] ∧ p.1 = ns.map Sum.inl) ∧
  ∀ (bs : List Addr) (ys : List V) (p : Addr), IsKeys H kvs bs → ys.Perm (bs.map V.ref) → H p = none → Q (.ref p) (upd H p (.lst ys))
theorem cr_sortD3 (hc : X.calm = true) : CallR X (.builtin "sorted") rSortD3 := by
  intro pins s σ H vs us Q I r h
  obtain ⟨d, kvs, rfl, hd, hkeys, q⟩ := h
  rw [Vals.ref1 r]
  obtain ⟨z, hs, ks, pr, o, es, ep, ho, hx, hdt, he, hn⟩ := (show ObjOk X.prog X.w H s.heap d (.dT kvs) from hd.ok I.hok)
  have l1 : es.size = ks.length := size_of_entries he
  have l2 : kvs.length = ks.length := Paired.length pr
  refine Calls.call_function_entry kind_sorted plain_sorted entry_sorted (args_sorted1 _) ?_
  unfold Builtin.«sorted»
  refine wpAny_bind (m := checkCount "sorted" 1 1 _) (wpAny_pure ?_)
  refine wpAny_bind (PySem.W.kdu_collect (A := X.A.in1) (kdl_raw hs hx hdt) (I.ok.hd hc) ho (by omega) fun h' tk acc kp it => ?_)
  have ea : acc.toList = ks.map fun x => Value.ref x.2.1 := by
    apply List.ext_getElem?
    intro j
    rw [List.getElem?_map]
    have hl : acc.toList.length = ks.length := by rw [Array.length_toList, it.1]; exact l1
    by_cases hj : j < ks.length
    · obtain ⟨en, hen, hv⟩ := it.2 j (acc.toList[j]) (by rw [← Array.getElem?_toList]; exact List.getElem?_eq_getElem (by omega))
      have qe := entry_at he j
      rw [hen, List.getElem?_eq_getElem hj] at qe
      have e2 := Option.some.inj qe
      rw [List.getElem?_eq_getElem (by omega), hv, e2, List.getElem?_eq_getElem hj]
      rfl
    · rw [List.getElem?_eq_none (by omega), List.getElem?_eq_none (by omega)]
      rfl
  have I1 : Inv X pins σ H { s with heap := h', toks := tk } := I.kept kp
  have hal : acc.toList.length ≤ sizeLine := by rw [ea, List.length_map]; omega
  refine wpAny_bind (wpAny_newList ?_ hal)
  have hoL : (h'.push (seqObj "list" acc.toList.toArray 0)).get? h'.objs.size = some (seqObj "list" acc.toList.toArray 0) := Heap.get?_push_size _ rfl
  have refs : ∀ v ∈ acc.toList, ∃ x ∈ ks, v = Value.ref x.2.1 := fun v hv => by
    rw [ea] at hv
    obtain ⟨x, hx, e⟩ := List.mem_map.mp hv
    exact ⟨x, hx, e.symm⟩
  have keyed : ∀ x ∈ ks, ∃ p ∈ kvs, p.1 = x.1 ∧ H x.2.1 = some (.tup (x.1.map kV)) := fun x hx => by
    obtain ⟨j, hj, e⟩ := List.mem_iff_getElem.mp hx
    have e1 : ks[j]? = some x := by rw [List.getElem?_eq_getElem hj, e]
    obtain ⟨p, hp, f⟩ := L2.DX.pget pr e1
    exact ⟨p, List.mem_of_getElem? hp, f.1, by rw [← f.1]; exact f.2.1⟩
  have tups : ∀ v ∈ acc.toList, ∃ n r, TS.TupInts (h'.push (seqObj "list" acc.toList.toArray 0)) v (n :: r) := fun v hv => by
    obtain ⟨x, hx, rfl⟩ := refs v hv
    obtain ⟨p, hp, e, ht⟩ := keyed x hx
    obtain ⟨ns, hne, ens⟩ := hkeys p hp
    obtain ⟨n, r, rfl⟩ : ∃ n r, ns = n :: r := by
      cases ns with
      | nil => exact absurd rfl hne
      | cons n r => exact ⟨n, r, rfl⟩
    refine ⟨n, r, ?_⟩
    have hk : x.1.map kV = (n :: r).map V.int := by
      rw [← e, ens, List.map_map]
      rfl
    rw [hk] at ht
    exact (tupI_raw I1 (SqT.of ht)).keeps fun b u eb _ => Heap.get?_push_of_some _ eb
  obtain ⟨fs, hfs⟩ := tups_first tups
  show wpAny _ _ _ _ _ { s with heap := h'.push (seqObj "list" acc.toList.toArray 0), toks := tk }
  refine wpAny_bind (wpAny_holding (wpAny_call_entry slot_list_sort ⟨_, hoL, rfl⟩ entry_list_sort
    (G.list_sort_tups (s := { s with heap := h'.push (seqObj "list" acc.toList.toArray 0), toks := tk }) (shape := noTxt) (fs := fs) hoL hfs (fun v hv => ?_) hal fun st' g1 g2 _ => ⟨_, rfl, ?_⟩) (args_list_sort _)))
  · obtain ⟨n, r, t⟩ := tups v hv
    exact ⟨_, key_inl t⟩
  obtain ⟨h1, _⟩ := out_pair g1 g2
  generalize (arrOf st').map (·.2) = out at h1 ⊢
  obtain ⟨c, hcc⟩ := sortedHeap_at (vs := acc.toList) (out := out) hoL
  have h3 : ∀ u ∈ out.toList, ∃ a, u = Value.ref a := fun u hu => by
    obtain ⟨x, _, e⟩ := refs u (h1.mem_iff.mp hu)
    exact ⟨_, e⟩
  have e0 : acc.toList.map bkV = (ks.map fun x => x.2.1).map V.ref := by
    rw [ea, List.map_map, List.map_map]
    rfl
  have hp : (out.toList.map bkV).Perm ((ks.map fun x => x.2.1).map V.ref) := by
    rw [← e0]
    exact h1.map bkV
  have hlen : (out.toList.map bkV).length ≤ sizeLine := by
    rw [List.length_map, h1.length_eq]
    exact hal
  refine wpAny_pure ⟨_, rfl, .ref _, upd H h'.objs.size (.lst (out.toList.map bkV)), I1.laid (t' := tk) (fun b u e => ?_) (Nat.le_refl _) ⟨hlen, out.toList, c, bkV_vals h3, hcc⟩, rfl, q _ _ _ (isKeys_of pr) hp (I1.hok.fresh (Nat.le_refl _))⟩
  have hlt := Heap.lt_size (show h'.get? b = some u from e)
  show (sortedHeap (h'.push (seqObj "list" acc.toList.toArray 0)) h'.objs.size acc.toList out).get? b = some u
  rw [sortedHeap_old (Nat.ne_of_lt hlt) (by rw [size_push']; exact Nat.lt_succ_of_lt hlt)]
  exact Heap.get?_push_of_some _ e
/-! in, not in: a tuple of data of any depth -/
def rInT (K : PySem.W.Frag) (neg : Bool) : R2 := fun x y H Q => ∃ d ds, Dp K H x d ∧ Dp K H y (.tuple ds) ∧ SeqAt.shaped d = true ∧ SeqAt.shaped (.tuple ds) = true ∧
  Q (.bl (if neg then !(ds.any fun z => PyData.eqv z d) else ds.any fun z => PyData.eqv z d)) H
theorem op_inT (hu : X.A.units + 65 < cLine) : OpR X (compareOp .In) (rInT X.K false) := by
  intro pins s σ H x y v u Q I rx ry h
  obtain ⟨d, ds, hd, he, sd, se, q⟩ := h
  obtain ⟨as, r1⟩ := Dp.reads I d x v hd rx
  obtain ⟨bs, r2⟩ := Dp.reads I (.tuple ds) y u he ry
  have lay : PyData.canLayAll0 ds = true := SeqAt.canLay_of_shaped se
  exact SeqAt.in_tuple_reads r2 r1 lay (SeqAt.canLay_of_shaped sd) (room_in_shaped sd hu) ⟨.bl _, H, I, rfl, q⟩
theorem op_notInT (hu : X.A.units + 65 < cLine) : OpR X (compareOp .NotIn) (rInT X.K true) := by
  intro pins s σ H x y v u Q I rx ry h
  obtain ⟨d, ds, hd, he, sd, se, q⟩ := h
  obtain ⟨as, r1⟩ := Dp.reads I d x v hd rx
  obtain ⟨bs, r2⟩ := Dp.reads I (.tuple ds) y u he ry
  have lay : PyData.canLayAll0 ds = true := SeqAt.canLay_of_shaped se
  exact SeqAt.notIn_tuple_reads r2 r1 lay (SeqAt.canLay_of_shaped sd) (room_in_shaped sd hu) ⟨.bl _, H, I, rfl, q⟩
/-! max(xs, default=None) of a list of ints -/
theorem foldl_max : ∀ (ns : List Int) (n : Int), (ns.foldl max n ∈ n :: ns) ∧ ∀ y ∈ n :: ns, y ≤ ns.foldl max n
  | [], n => ⟨List.mem_cons_self, fun y hy => by
      rcases List.mem_cons.mp hy with e | e
      · rw [e]; exact Int.le_refl _
      · cases e⟩
  | k :: r, n => by
    obtain ⟨h1, h2⟩ := foldl_max r (max n k)
    show (r.foldl max (max n k)) ∈ n :: k :: r ∧ ∀ y ∈ n :: k :: r, y ≤ r.foldl max (max n k)
    have g := h2 _ List.mem_cons_self
    refine ⟨?_, fun y hy => ?_⟩
    · rcases List.mem_cons.mp h1 with e | e
      · rw [e]
        rcases Int.le_total n k with l | l
        · rw [Int.max_eq_right l]; exact List.mem_cons_of_mem _ List.mem_cons_self
        · rw [Int.max_eq_left l]; exact List.mem_cons_self
      · exact List.mem_cons_of_mem _ (List.mem_cons_of_mem _ e)
    · rcases List.mem_cons.mp hy with e | e
      · subst e; exact Int.le_trans (Int.le_max_left _ _) g
      · rcases List.mem_cons.mp e with e | e
        · subst e; exact Int.le_trans (Int.le_max_right _ _) g
        · exact h2 y (List.mem_cons_of_mem _ e)
theorem dps_ints {K : PySem.W.Frag} {H : Hp} : ∀ ns : List Int, DpAll K H (ns.map V.int) (ns.map PyData.int)
  | [] => .nil
  | n :: ns => .cons (.int n) (dps_ints ns)
theorem depth_ints : ∀ ns : List Int, PyData.depthAll (ns.map PyData.int) = 0
  | [] => by simp [PyData.depthAll]
  | n :: ns => by simp [PyData.depthAll, PyData.depth, depth_ints ns]
def rMaxD (K : PySem.W.Frag) : List V → List V → Hp → VK → Prop := fun vs zs H Q => ∃ (a : Addr) (ns : List Int), vs = [V.ref a] ∧ zs = [.non] ∧ SqL K H a (ns.map V.int) ∧ (ns = [] → Q .non H) ∧
  ∀ m, m ∈ ns → (∀ y ∈ ns, y ≤ m) → Q (.int m) H
theorem cr_maxD (hc : X.calm = true) (hu : X.A.units + 1 < cLine) : CallRK X (.builtin "max") [Str.ofString "default"] (rMaxD X.K) := by
  intro pins s σ H vs zs us ws Q I r rz h
  obtain ⟨a, ns, rfl, rfl, hs, q0, q⟩ := h
  rw [Vals.ref1 r]
  obtain ⟨w1, rfl, e1⟩ := vals1 rz
  obtain rfl : w1 = Value.none := e1
  obtain ⟨its, rv, hl, hz⟩ := I.list hs
  obtain ⟨as, hr⟩ := Dp.readsAll I (ns.map PyData.int) _ _ (dps_ints ns) rv
  refine PySem.W.max_list_default (vs := its.toArray) (xs := ns.map PyData.int) (as := as) (I.ok.hd hc) hl.isList hr ⟨fun x hx y hy => ?_, fun x hx => ?_⟩ ?_ (fun e h' tk hk => ?_) fun y ys i v h' tk bs e _ rd hk => ?_
  · obtain ⟨n, _, rfl⟩ := List.mem_map.mp hx
    obtain ⟨m, _, rfl⟩ := List.mem_map.mp hy
    simp [PySem.W.alike]
  · obtain ⟨n, _, rfl⟩ := List.mem_map.mp hx
    exact fun z => nomatch z
  · rw [depth_ints]; exact hu
  · exact ⟨.non, H, I.kept hk, rfl, q0 (List.map_eq_nil_iff.mp e)⟩
  · cases ns with
    | nil => cases e
    | cons n r =>
      rw [List.map_cons] at e
      injection e with e1 e2
      rw [← e1, ← e2, PySem.W.maxD_ints] at rd
      obtain ⟨h1, h2⟩ := foldl_max r n
      cases rd with
      | int i t => exact ⟨.int _, H, I.kept hk, ⟨_, rfl⟩, q _ h1 h2⟩
/-! t[::-1], a tuple -/
section
variable {prog : Program} {w : World} {A : Around} {E : Value → Shared → Prop} {s : Shared}
theorem adjust_back (n : Nat) : Builtin.Slice.sliceAdjust none none (-1) (n : Int) = ((n : Int) - 1, -1) := by
  unfold Builtin.Slice.sliceAdjust
  simp
theorem places_back (n : Nat) : Builtin.Slice.slicePlaces ((n : Int) - 1) (-1) (-1) = n := by
  unfold Builtin.Slice.slicePlaces
  have h1 : ¬ ((-1 : Int) > 0) := by decide
  by_cases h : (n : Int) - 1 > -1
  · have e : ((n : Int) - 1 - -1 - 1) / (- -1) = (n : Int) - 1 := by
      rw [show (- -1 : Int) = 1 by decide, Int.ediv_one]
      omega
    simp only [h1, if_false, h, if_true, e]
    omega
  · simp only [h1, if_false, h]
    omega
theorem pick_back (xs : Array Value) : ((List.range xs.size).filterMap fun (k : Nat) => xs[(((xs.size : Nat) : Int) - 1 + (k : Int) * (-1)).toNat]?).toArray = xs.toList.reverse.toArray := by
  have e0 : (fun (k : Nat) => xs[(((xs.size : Nat) : Int) - 1 + (k : Int) * (-1)).toNat]?) = fun k => xs[xs.size - 1 - k]? := by
    funext k
    have e2 : (((xs.size : Nat) : Int) - 1 + (k : Int) * (-1)).toNat = xs.size - 1 - k := by omega
    rw [e2]
  have e1 : ((List.range xs.size).filterMap fun (k : Nat) => xs[xs.size - 1 - k]?) = ((List.range xs.size).map fun k => xs.size - 1 - k).filterMap fun k => xs[k]? := by
    rw [List.filterMap_map]
    rfl
  rw [e0, e1, PySem.W.krv_range, List.filterMap_reverse, PySem.W.krv_all]
theorem tuple_back {t sl : Addr} {items : Array Value} {k : Tok} {Q : Value → Shared → Prop} (ht : IsTup s.heap t items) (hs : s.heap.IsSliceOf sl .none .none (.int (-1) k)) (hz : items.size ≤ sizeLine)
    (h : Q (.ref s.heap.objs.size) { s with heap := s.heap.push { cls := .type "tuple", data := .seq items.toList.reverse.toArray } }) : wpAny (model prog w) A (getItem (.ref t) (.ref sl)) Q E s := by
  obtain ⟨os, hos, hcs, hds⟩ := id hs
  have hTs : s.TypeIs (.ref sl) "slice" := ⟨os, hos, hcs⟩
  unfold getItem
  try with_reducible refine wpAny_holding ?_
  first | refine wpAny_bind (wpAny_pure ?_) | skip
  refine wpAny_bind (wpAny_sequenceKey ht.typeIs (by decide) ?_)
  refine wpAny_bind (wpAny_callSpecial?_slot (name := Str.ofString "__getitem__") ht.typeIs PyProof.Rows.slot_tuple_getitem
    (wpAny_call_entry PyProof.Rows.slot_tuple_getitem ht.typeIs entry_tuple_getitem ?_ (args_tuple_getitem _ _)))
  show wpAny _ _ (Builtin.Tuple.tupleItemsOf (.ref t) >>= _) _ _ s
  refine wpAny_bind (tupleItemsOf_ ht ?_)
  refine wpAny_bind (wpAny_typeOf hTs ?_)
  rw [if_pos (by decide)]
  refine wpAny_bind ?_
  unfold Builtin.Slice.sliceApplied Builtin.Slice.sliceFields
  refine wpAny_bind (wpAny_bind (wpAny_field hos hds (x := .none) rfl (wpAny_bind (wpAny_field hos hds (x := .none) rfl (wpAny_bind (wpAny_field hos hds (x := .int (-1) k) rfl (wpAny_pure ?_)))))))
  refine wpAny_bind (slicePart_int ?_)
  show wpAny _ _ (if ((-1 : Int) == 0) = true then _ else _) _ _ s
  rw [if_neg (by decide)]
  refine wpAny_bind (slicePart_none (wpAny_bind (slicePart_none (wpAny_bind (wpAny_pure ?_)))))
  show wpAny _ _ (match Builtin.Slice.sliceAdjust none none (-1) (items.size : Int) with | (lo, hi) => pure (lo, (-1 : Int), Builtin.Slice.slicePlaces lo hi (-1))) _ _ s
  rw [adjust_back]
  show wpAny _ _ (pure (((items.size : Int) - 1), (-1 : Int), Builtin.Slice.slicePlaces ((items.size : Int) - 1) (-1) (-1))) _ _ s
  rw [places_back]
  refine wpAny_pure ?_
  have hno : ¬ ((((items.size : Int) - 1) == 0 && (-1 : Int) == 1 && items.size == items.size) = true) := by
    intro q
    rw [Bool.and_eq_true, Bool.and_eq_true] at q
    exact absurd q.1.2 (by decide)
  show wpAny _ _ (if (((items.size : Int) - 1) == 0 && (-1 : Int) == 1 && items.size == items.size) = true then _ else _) _ _ s
  rw [if_neg hno, pick_back]
  have hsz : sizeOk (.seq items.toList.reverse.toArray) := by
    show items.toList.reverse.toArray.size ≤ sizeLine
    simpa using hz
  first
    | exact wpAny_bind (m := Builtin.Tuple.tupleExact _) (wpAny_newObj_type (wpAny_pure ⟨_, rfl, wpAny_pure h⟩) hsz)
    | exact wpAny_bind (m := Builtin.Tuple.tupleExact _) (wpAny_newObj_type (wpAny_bind (wpAny_pure (wpAny_pure ⟨_, rfl, wpAny_pure h⟩))) hsz)
    | exact wpAny_bind (wpAny_bind (m := Builtin.Tuple.tupleExact _) (wpAny_newObj_type (wpAny_pure (wpAny_pure ⟨_, rfl, wpAny_pure h⟩)) hsz))
    | exact wpAny_bind (wpAny_bind (m := Builtin.Tuple.tupleExact _) (wpAny_newObj_type (wpAny_pure ⟨_, rfl, wpAny_pure h⟩) hsz))
end
def tRevT (K : PySem.W.Frag) (te : TE) : TE := fun σ H Q => te σ H fun x H1 => ∃ a xs, x = .ref a ∧ SqT K H1 a xs ∧ ∀ p, H1 p = none → Q (.ref p) (upd H1 p (.tup xs.reverse))
theorem pe_revT {e : Expr} {te : TE} {k : Nat} {p1 p2 p3 pos : Pos} (he : PE X e te) : PE X (.Subscript e (.Slice none none (some (.UnaryOp .USub (.Constant (.int 1) k p1) p2)) p3) pos) (tRevT X.K te) := by
  refine ⟨fun pins s σ H Q I h => ?_⟩
  refine Subscript_ (thn (he.run pins s σ H _ I h) fun v s1 ⟨x, H1, I1, r1, q1⟩ => ?_)
  obtain ⟨a, xs, ex, hx, q⟩ := q1
  subst ex
  cases r1
  have hst : PE X (.UnaryOp .USub (.Constant (.int 1) k p1) p2) (tUn (rU fun i => .int (-i)) (tC (.int 1))) := pe_un un_neg pe_int
  have hpo : PO X (some (.UnaryOp .USub (.Constant (.int 1) k p1) p2)) (tPart (tUn (rU fun i => .int (-i)) (tC (.int 1)))) := po_some hst
  refine wpAny_Slice (thn (po_none.run pins s1 σ H1 (fun o H2 => o = none ∧ H2 = H1) I1 ⟨rfl, rfl⟩) fun vl s2 ⟨l, H2, I2, pl, el, e2⟩ => ?_)
  subst el e2
  refine thn (po_none.run pins s2 σ H2 (fun o H3 => o = none ∧ H3 = H2) I2 ⟨rfl, rfl⟩) fun vu s3 ⟨u, H3, I3, pu, eu, e3⟩ => ?_
  subst eu e3
  refine thn (hpo.run pins s3 σ H3 (fun o H4 => o = some (-1) ∧ H4 = H3) I3 ⟨1, rfl, -1, rfl, rfl, rfl⟩) fun vs s4 ⟨o, H4, I4, ps, eo, e4⟩ => ?_
  subst eo e4
  cases pl
  cases pu
  cases ps with
  | int i t =>
  have I5 : Inv X pins σ H4 { s4 with heap := s4.heap.push { cls := .type "slice", data := .fields #[.none, .none, .int (-1) t] } } := I4.kept (t' := s4.toks) fun b ob q => Heap.get?_push_of_some _ q
  obtain ⟨its, r, ht, hz⟩ := I5.tuple hx
  have hlen := r.length
  show wpAny (model X.prog X.w) X.A (subscriptTail e (.Slice none none (some (.UnaryOp .USub (.Constant (.int 1) k p1) p2)) p3) (.ref a) (.ref s4.heap.objs.size)) (EP X pins σ Q) X.xe { s4 with heap := s4.heap.push { cls := .type "slice", data := .fields #[.none, .none, .int (-1) t] } }
  refine tail_any (ops := [.ref a, .ref s4.heap.objs.size]) ht.typeIs (PyProof.Rows.slot_tuple_getitem.lookup) ?_ (by with_unfolding_all rfl)
  refine tuple_back ht (Heap.IsSliceOf.new _ _ _ _) (by rw [List.size_toArray]; omega) ?_
  refine ⟨.ref _, _, I5.laid (t' := s4.toks) (o := .tup xs.reverse) (fun b ob q => Heap.get?_push_of_some _ q) (Nat.le_refl _) ?_, rfl, q _ (I5.hok.fresh (Nat.le_refl _))⟩
  exact ⟨by rw [List.length_reverse]; exact hz, _, r.reverse, ⟨_, Heap.get?_push_size _ rfl, rfl, 0, by simp⟩⟩
end
/-! a walk over zip of two tuples -/
theorem walk_zipT {K : PySem.W.Frag} {a b : Addr} {xs ys : List V} {n : Nat} (hn : n = min xs.length ys.length) : Walk (RZ.ItzT K a b) n (fun H => SqT K H a xs ∧ SqT K H b ys) (YPair (fun i => xs[i]?) (fun i => ys[i]?)) := by
  subst hn
  refine ⟨fun i _ hi q => ?_, fun _ q => ⟨xs, ys, q.1, q.2, by omega⟩, fun i H v H' _ q y => ?_⟩
  · have h1 : i < xs.length := by omega
    have h2 : i < ys.length := by omega
    exact ⟨xs, ys, xs[i], ys[i], q.1, q.2, by simp [h1], by simp [h2]⟩
  · obtain ⟨T, x, z, h1, h2, h3, h4, h5⟩ := y
    exact ⟨T, x, z, h1, h2, h3, h4 xs q.1, h5 ys q.2⟩
end Wm
end
section
set_option linter.all false
set_option autoImplicit false
/-! The mathematics, no program in sight: webs, walks, soonest comings. -/
namespace Wm
/-- (moment, from, to) -/
abbrev Step : Type := Int × Nat × Nat
structure Web where
  many : Nat
  meets : List Step
/-- a step of the web: a meeting gone the one way or the other -/
def St (W : Web) (s : Step) : Prop := s ∈ W.meets ∨ (s.1, s.2.2, s.2.1) ∈ W.meets
structure WebOk (W : Web) : Prop where
  pos : 1 ≤ W.many
  le : W.many ≤ 7
  few : W.meets.length ≤ 24
  ok : ∀ m ∈ W.meets, m.2.1 < m.2.2 ∧ m.2.2 < W.many
theorem WebOk.st {W : Web} (o : WebOk W) {s : Step} (h : St W s) : s.2.1 ≠ s.2.2 ∧ s.2.1 < W.many ∧ s.2.2 < W.many := by
  rcases h with h | h
  · have := o.ok _ h
    omega
  · have := o.ok _ h
    simp only at this
    omega
/-- the steps of the web turned about -/
def StT (W : Web) (s : Step) : Prop := St W (-s.1, s.2.1, s.2.2)

/-! ### comings -/
inductive Comes (S : Step → Prop) (rest first : Int) (start : Nat) : Nat → Int → Prop
  | one {t : Int} {v : Nat} : S (t, start, v) → first ≤ t → Comes S rest first start v t
  | more {u v : Nat} {t t' : Int} : Comes S rest first start u t → S (t', u, v) → t + rest ≤ t' → Comes S rest first start v t'
section
variable {S S' : Step → Prop} {rest rest' first first' : Int} {start : Nat} {v : Nat} {t : Int}
theorem Comes.mono (hS : ∀ s, S s → S' s) (hr : rest' ≤ rest) (hf : first' ≤ first) (h : Comes S rest first start v t) : Comes S' rest' first' start v t := by
  induction h with
  | one h1 h2 => exact .one (hS _ h1) (by omega)
  | more _ h2 h3 ih => exact .more ih (hS _ h2) (by omega)
theorem Comes.ge (h0 : 0 ≤ rest) (h : Comes S rest first start v t) : first ≤ t := by
  induction h with
  | one _ h2 => exact h2
  | more _ _ h3 ih => omega
/-- steps ahead of the first moment are never gone -/
theorem Comes.cut (h0 : 0 ≤ rest) (hS : ∀ s, S s → first ≤ s.1 → S' s) (h : Comes S rest first start v t) : Comes S' rest first start v t := by
  induction h with
  | one h1 h2 => exact .one (hS _ h1 h2) h2
  | more h1 h2 h3 ih => exact .more ih (hS _ h2 (by have := h1.ge h0; show first ≤ _; omega)) h3
/-- put off by a number -/
theorem Comes.shift {d : Int} (hS : ∀ s : Step, S s → S' (s.1 + d, s.2.1, s.2.2)) (h : Comes S rest first start v t) : Comes S' rest (first + d) start v (t + d) := by
  induction h with
  | one h1 h2 => exact .one (hS _ h1) (by omega)
  | more _ h2 h3 ih => exact .more ih (hS _ h2) (by omega)
/-- renamed -/
theorem Comes.rename {f : Nat → Nat} (hS : ∀ s : Step, S s → S' (s.1, f s.2.1, f s.2.2)) (h : Comes S rest first start v t) : Comes S' rest first (f start) (f v) t := by
  induction h with
  | one h1 h2 => exact .one (hS _ h1) h2
  | more _ h2 h3 ih => exact .more ih (hS _ h2) h3
theorem Comes.unname {f : Nat → Nat} (hS : ∀ s : Step, S' s → ∃ u v, s.2.1 = f u ∧ s.2.2 = f v ∧ S (s.1, u, v))
    (inj : ∀ s : Step, S s → ∀ r : Step, S r → ∀ a b, (a = s.2.1 ∨ a = s.2.2) → (b = r.2.1 ∨ b = r.2.2) → f a = f b → a = b) (is : ∀ s : Step, S s → f s.2.1 = f start → s.2.1 = start)
    {x : Nat} (h : Comes S' rest first (f start) x t) : ∃ v u t0, x = f v ∧ S (t0, u, v) ∧ Comes S rest first start v t := by
  induction h with
  | one h1 h2 =>
    obtain ⟨u, v, e1, e2, h⟩ := hS _ h1
    have e3 : u = start := is (_, u, v) h e1.symm
    subst e3
    exact ⟨v, _, _, e2, h, .one h h2⟩
  | more _ h2 h3 ih =>
    obtain ⟨w, u0, t0, ew, hw, hc⟩ := ih
    obtain ⟨u, v, e1, e2, h⟩ := hS _ h2
    have e3 : w = u := inj (t0, u0, w) hw (_, u, v) h w u (.inr rfl) (.inl rfl) (ew.symm.trans e1)
    subst e3
    exact ⟨v, _, _, e2, h, .more hc h h3⟩
end

/-! ### soonest comings -/
def Soon (S : Step → Prop) (many : Nat) (rest : Int) (start : Nat) (first : Int) (c : List (Option Int)) : Prop :=
  c.length = many ∧ c[start]? = some (some first) ∧ ∀ v, v ≠ start → v < many → ∃ o, c[v]? = some o ∧ (∀ t, o = some t → Comes S rest first start v t) ∧ ∀ t, Comes S rest first start v t → ∃ t0, o = some t0 ∧ t0 ≤ t
theorem Soon.congr {S S' : Step → Prop} {many : Nat} {rest first : Int} {start : Nat} {c : List (Option Int)} (h : Soon S many rest start first c) (e : ∀ v t, v ≠ start → (Comes S rest first start v t ↔ Comes S' rest first start v t)) : Soon S' many rest start first c := by
  obtain ⟨h1, h2, h3⟩ := h
  refine ⟨h1, h2, fun v hv hm => ?_⟩
  obtain ⟨o, ho, ha, hb⟩ := h3 v hv hm
  exact ⟨o, ho, fun t ht => (e v t hv).mp (ha t ht), fun t ht => hb t ((e v t hv).mpr ht)⟩
theorem Soon.unique {S : Step → Prop} {many : Nat} {rest first : Int} {start : Nat} {c c' : List (Option Int)} (h : Soon S many rest start first c) (h' : Soon S many rest start first c') : c = c' := by
  obtain ⟨h1, h2, h3⟩ := h
  obtain ⟨h1', h2', h3'⟩ := h'
  apply List.ext_getElem?
  intro v
  by_cases hm : v < many
  · by_cases hv : v = start
    · subst hv; rw [h2, h2']
    · obtain ⟨o, ho, ha, hb⟩ := h3 v hv hm
      obtain ⟨o', ho', ha', hb'⟩ := h3' v hv hm
      rw [ho, ho']
      congr 1
      cases o with
      | none =>
        cases o' with
        | none => rfl
        | some t' =>
          obtain ⟨_, e, _⟩ := hb _ (ha' t' rfl)
          cases e
      | some t =>
        obtain ⟨t0, e, l⟩ := hb' _ (ha t rfl)
        subst e
        obtain ⟨t1, e, l1⟩ := hb _ (ha' t0 rfl)
        cases e
        have : t = t0 := by omega
        rw [this]
  · rw [List.getElem?_eq_none (by omega), List.getElem?_eq_none (by omega)]
theorem Soon.start_lt {S : Step → Prop} {many : Nat} {rest first : Int} {start : Nat} {c : List (Option Int)} (h : Soon S many rest start first c) : start < many := by
  obtain ⟨h1, h2, _⟩ := h
  have := (List.getElem?_eq_some_iff.mp h2).1
  omega

/-! ### the program's loop, by turns -/
def canGo (c : List (Option Int)) (rest : Int) (start : Nat) (first : Int) (s : Step) : Bool :=
  if s.2.1 = start then decide (first ≤ s.1) else match c.getD s.2.1 none with
    | some t => decide (t + rest ≤ s.1)
    | none => false
def sooner (c : List (Option Int)) (start : Nat) (s : Step) : Bool :=
  if s.2.2 = start then false else match c.getD s.2.2 none with
    | some t => decide (s.1 < t)
    | none => true
def shut (c : List (Option Int)) (rest : Int) (start : Nat) (first : Int) (s : Step) : Prop := sooner c start s = true → canGo c rest start first s = true → False

theorem getD_set_self {α : Type} {l : List α} {i : Nat} {x d : α} (h : i < l.length) : (l.set i x).getD i d = x := by
  rw [List.getD_eq_getElem?_getD, List.getElem?_set_self h]
  rfl
theorem getD_set_ne {α : Type} {l : List α} {i j : Nat} {x d : α} (h : i ≠ j) : (l.set i x).getD j d = l.getD j d := by
  rw [List.getD_eq_getElem?_getD, List.getElem?_set_ne h, List.getD_eq_getElem?_getD]

/-- what is true of clocks and tree within the loop; rk: when a place was last set -/
structure TInv (S : Step → Prop) (many : Nat) (rest : Int) (start : Nat) (first : Int) (c : List (Option Int)) (tr : List (Option Step)) (rk : Nat → Nat) (N : Nat) : Prop where
  cl : c.length = many
  tl : tr.length = many
  cs : c[start]? = some (some first)
  node : ∀ v, v ≠ start → v < many → (c.getD v none = none ∧ tr.getD v none = none) ∨
    ∃ s : Step, tr.getD v none = some s ∧ c.getD v none = some s.1 ∧ S s ∧ s.2.2 = v ∧ Comes S rest first start v s.1 ∧
      ((s.2.1 = start ∧ first ≤ s.1) ∨ (s.2.1 ≠ start ∧ ∃ t', c.getD s.2.1 none = some t' ∧ t' + rest ≤ s.1 ∧ (t' < s.1 ∨ (t' = s.1 ∧ rk s.2.1 < rk v))))
  low : ∀ v, rk v < N
section
variable {S : Step → Prop} {many : Nat} {rest first : Int} {start : Nat} {c c0 : List (Option Int)} {tr : List (Option Step)} {rk : Nat → Nat} {N : Nat}
theorem TInv.new (h : start < many) : TInv S many rest start first ((List.replicate many none).set start (some first)) (List.replicate many none) (fun _ => 0) 1 where
  cl := by rw [List.length_set, List.length_replicate]
  tl := by rw [List.length_replicate]
  cs := by rw [List.getElem?_set_self (by rw [List.length_replicate]; exact h)]
  node := fun v hv hm => .inl ⟨by
    rw [getD_set_ne (fun e => hv e.symm), List.getD_eq_getElem?_getD, List.getElem?_replicate, if_pos hm]
    rfl, by
    rw [List.getD_eq_getElem?_getD, List.getElem?_replicate, if_pos hm]
    rfl⟩
  low := fun _ => Nat.zero_lt_one
theorem TInv.put (hS : ∀ s, S s → s.2.1 ≠ s.2.2 ∧ s.2.1 < many ∧ s.2.2 < many) (h0 : 0 ≤ rest) (I : TInv S many rest start first c tr rk N) {s : Step} (hs : S s) (h1 : sooner c start s = true) (h2 : canGo c rest start first s = true) :
    TInv S many rest start first (c.set s.2.2 (some s.1)) (tr.set s.2.2 (some s)) (fun x => if x = s.2.2 then N else rk x) (N + 1) := by
  obtain ⟨ne, l1, l2⟩ := hS s hs
  have hst : s.2.2 ≠ start := by
    intro e
    unfold sooner at h1
    rw [if_pos e] at h1
    cases h1
  unfold sooner at h1
  rw [if_neg hst] at h1
  have hlow : ∀ t, c.getD s.2.2 none = some t → s.1 < t := fun t e => by
    rw [e] at h1
    exact of_decide_eq_true h1
  unfold canGo at h2
  refine ⟨by rw [List.length_set]; exact I.cl, by rw [List.length_set]; exact I.tl, by rw [List.getElem?_set_ne hst]; exact I.cs, fun v hv hm => ?_, fun v => ?_⟩
  · by_cases e : v = s.2.2
    · subst e
      refine .inr ⟨s, getD_set_self (by rw [I.tl]; exact l2), getD_set_self (by rw [I.cl]; exact l2), hs, rfl, ?_, ?_⟩
      · by_cases e : s.2.1 = start
        · rw [if_pos e] at h2
          refine .one ?_ (of_decide_eq_true h2)
          rw [← e]
          exact hs
        · rw [if_neg e] at h2
          rcases I.node s.2.1 e l1 with ⟨n1, _⟩ | ⟨r, _, n2, _, n4, n5, _⟩
          · rw [n1] at h2
            cases h2
          · rw [n2] at h2
            exact .more n5 hs (of_decide_eq_true h2)
      · by_cases e : s.2.1 = start
        · rw [if_pos e] at h2
          exact .inl ⟨e, of_decide_eq_true h2⟩
        · rw [if_neg e] at h2
          cases q : c.getD s.2.1 none with
          | none =>
            rw [q] at h2
            cases h2
          | some t =>
            rw [q] at h2
            have h3 : t + rest ≤ s.1 := of_decide_eq_true h2
            refine .inr ⟨e, t, by rw [getD_set_ne (fun z => ne z.symm)]; exact q, h3, ?_⟩
            rcases Int.lt_or_le t s.1 with l | l
            · exact .inl l
            · refine .inr ⟨by omega, ?_⟩
              show (if s.2.1 = s.2.2 then N else rk s.2.1) < (if s.2.2 = s.2.2 then N else rk s.2.2)
              rw [if_neg ne, if_pos rfl]
              exact I.low _
    · rw [getD_set_ne (fun z => e z.symm), getD_set_ne (fun z => e z.symm)]
      rcases I.node v hv hm with n | ⟨r, n1, n2, n3, n4, n5, n6⟩
      · exact .inl n
      · refine .inr ⟨r, n1, n2, n3, n4, n5, ?_⟩
        rcases n6 with n6 | ⟨n6, t', n7, n8, n9⟩
        · exact .inl n6
        · refine .inr ⟨n6, ?_⟩
          by_cases er : r.2.1 = s.2.2
          · refine ⟨s.1, by rw [er]; exact getD_set_self (by rw [I.cl]; exact l2), ?_⟩
            have := hlow t' (by rw [← er]; exact n7)
            omega
          · refine ⟨t', by rw [getD_set_ne (fun z => er z.symm)]; exact n7, n8, ?_⟩
            show t' < r.1 ∨ (t' = r.1 ∧ (if r.2.1 = s.2.2 then N else rk r.2.1) < (if v = s.2.2 then N else rk v))
            rw [if_neg er, if_neg e]
            exact n9
  · show (if v = s.2.2 then N else rk v) < N + 1
    have := I.low v
    split <;> omega
theorem countP_lt {α : Type} {P Q : α → Bool} : ∀ {l : List α}, (∀ x ∈ l, P x = true → Q x = true) → (∃ x ∈ l, Q x = true ∧ P x = false) → l.countP P < l.countP Q
  | [], _, ⟨x, hx, _⟩ => by cases hx
  | a :: l, h, ⟨x, hx, h1, h2⟩ => by
    have le : l.countP P ≤ l.countP Q := List.countP_mono_left fun y hy => h y (List.mem_cons_of_mem _ hy)
    rw [List.countP_cons, List.countP_cons]
    rcases List.mem_cons.mp hx with e | hx
    · subst e
      rw [h1, h2]
      simp only [if_true, Bool.false_eq_true, if_false]
      omega
    · have := countP_lt (fun y hy => h y (List.mem_cons_of_mem _ hy)) ⟨x, hx, h1, h2⟩
      by_cases hp : P a = true
      · rw [hp, h a List.mem_cons_self hp]
        simp only [if_true]
        omega
      · rw [if_neg hp]
        split <;> omega
/-- how many steps would still lower a clock -/
def mu (ss : List Step) (start : Nat) (c : List (Option Int)) : Nat := ss.countP (sooner c start)
theorem sooner_set {v : Nat} {x : Int} (hv : v < c.length) (hlow : ∀ t, c.getD v none = some t → x < t) {r : Step} (h : sooner (c.set v (some x)) start r = true) : sooner c start r = true := by
  unfold sooner at h ⊢
  by_cases e : r.2.2 = start
  · rw [if_pos e] at h
    cases h
  · rw [if_neg e] at h ⊢
    by_cases ev : v = r.2.2
    · subst ev
      rw [getD_set_self hv] at h
      have h' : r.1 < x := of_decide_eq_true h
      cases q : c.getD r.2.2 none with
      | none => rfl
      | some t =>
        have := hlow t q
        exact decide_eq_true (show r.1 < t by omega)
    · rw [getD_set_ne ev] at h
      exact h
theorem sooner_low {r : Step} (h : sooner c start r = true) : r.2.2 ≠ start ∧ ∀ t, c.getD r.2.2 none = some t → r.1 < t := by
  unfold sooner at h
  by_cases e : r.2.2 = start
  · rw [if_pos e] at h
    cases h
  · rw [if_neg e] at h
    refine ⟨e, fun t q => ?_⟩
    rw [q] at h
    exact of_decide_eq_true h
theorem sooner_self {r : Step} (hv : r.2.2 < c.length) : sooner (c.set r.2.2 (some r.1)) start r = false := by
  unfold sooner
  by_cases e : r.2.2 = start
  · rw [if_pos e]
  · rw [if_neg e, getD_set_self hv]
    exact decide_eq_false (Int.lt_irrefl _)
theorem mu_lt {ss : List Step} {r : Step} (hr : r ∈ ss) (hv : r.2.2 < c.length) (h : sooner c start r = true) : mu ss start (c.set r.2.2 (some r.1)) < mu ss start c :=
  countP_lt (fun x _ q => sooner_set hv (sooner_low h).2 q) ⟨r, hr, h, sooner_self hv⟩

/-- within a pass over the steps, behind i of them; c0: the clocks ahead of the pass -/
structure PInv (S : Step → Prop) (many : Nat) (rest : Int) (start : Nat) (first : Int) (ss : List Step) (c0 : List (Option Int)) (i : Nat) (c : List (Option Int)) (tr : List (Option Step)) (ch : Bool) : Prop where
  inv : ∃ rk N, TInv S many rest start first c tr rk N
  pos : rest ≠ 0 → ch = false ∧ ∀ s ∈ ss.take i, shut c rest start first s
  zero : rest = 0 → (ch = false → c = c0 ∧ ∀ s ∈ ss.take i, shut c rest start first s) ∧ (ch = true → mu ss start c < mu ss start c0)
theorem PInv.begin (h : ∃ rk N, TInv S many rest start first c tr rk N) {ss : List Step} : PInv S many rest start first ss c 0 c tr false :=
  ⟨h, fun _ => ⟨rfl, fun s hs => by cases hs⟩, fun _ => ⟨fun _ => ⟨rfl, fun s hs => by cases hs⟩, fun z => by cases z⟩⟩
theorem mem_take_succ {α : Type} {l : List α} {i : Nat} {x y : α} (hx : l[i]? = some x) (h : y ∈ l.take (i + 1)) : y ∈ l.take i ∨ y = x := by
  rw [List.take_add_one, hx] at h
  rcases List.mem_append.mp h with h | h
  · exact .inl h
  · exact .inr (by simpa using h)
theorem PInv.skip {ss : List Step} {i : Nat} {ch : Bool} {r : Step} (P : PInv S many rest start first ss c0 i c tr ch) (hr : ss[i]? = some r) (h : shut c rest start first r) : PInv S many rest start first ss c0 (i + 1) c tr ch := by
  refine ⟨P.inv, fun z => ⟨(P.pos z).1, fun s hs => ?_⟩, fun z => ⟨fun e => ⟨((P.zero z).1 e).1, fun s hs => ?_⟩, (P.zero z).2⟩⟩
  · rcases mem_take_succ hr hs with q | q
    · exact (P.pos z).2 s q
    · rw [q]; exact h
  · rcases mem_take_succ hr hs with q | q
    · exact ((P.zero z).1 e).2 s q
    · rw [q]; exact h
theorem sorted_take {ss : List Step} (hs : ss.Pairwise (fun a b => a.1 ≤ b.1)) {i : Nat} {r y : Step} (hr : ss[i]? = some r) (hy : y ∈ ss.take i) : y.1 ≤ r.1 := by
  obtain ⟨j, hj, e⟩ := List.mem_iff_getElem.mp hy
  rw [List.length_take] at hj
  obtain ⟨hi, er⟩ := List.getElem?_eq_some_iff.mp hr
  have := List.pairwise_iff_getElem.mp hs j i (by omega) hi (by omega)
  rw [List.getElem_take] at e
  rw [← e, ← er]
  exact this
theorem PInv.put {ss : List Step} {i : Nat} {ch : Bool} {r : Step} (hS : ∀ s, S s → s.2.1 ≠ s.2.2 ∧ s.2.1 < many ∧ s.2.2 < many) (h0 : 0 ≤ rest) (hss : ∀ s ∈ ss, S s) (hsort : ss.Pairwise (fun a b => a.1 ≤ b.1))
    (P : PInv S many rest start first ss c0 i c tr ch) (hr : ss[i]? = some r) (h1 : sooner c start r = true) (h2 : canGo c rest start first r = true) :
    PInv S many rest start first ss c0 (i + 1) (c.set r.2.2 (some r.1)) (tr.set r.2.2 (some r)) (decide (rest = 0)) := by
  have hm : r ∈ ss := List.mem_of_getElem? hr
  obtain ⟨rk, N, I⟩ := P.inv
  obtain ⟨ne, l1, l2⟩ := hS r (hss r hm)
  have hv : r.2.2 < c.length := by rw [I.cl]; exact l2
  refine ⟨⟨_, _, I.put hS h0 (hss r hm) h1 h2⟩, fun z => ⟨decide_eq_false z, fun s hs q1 q2 => ?_⟩, fun z => ⟨fun e => ?_, fun _ => ?_⟩⟩
  · rcases mem_take_succ hr hs with q | q
    · refine (P.pos z).2 s q (sooner_set hv (sooner_low h1).2 q1) ?_
      have le := sorted_take hsort hr q
      unfold canGo at q2 ⊢
      by_cases e : s.2.1 = start
      · rw [if_pos e] at q2 ⊢
        exact q2
      · rw [if_neg e] at q2 ⊢
        by_cases ev : r.2.2 = s.2.1
        · rw [← ev, getD_set_self hv] at q2
          have : r.1 + rest ≤ s.1 := of_decide_eq_true q2
          omega
        · rw [getD_set_ne ev] at q2
          exact q2
    · rw [q, sooner_self hv] at q1
      cases q1
  · rw [z] at e
    cases e
  · have lt := mu_lt hm hv h1
    cases hc : ch with
    | false =>
      rw [((P.zero z).1 hc).1] at lt ⊢
      exact lt
    | true => exact Nat.lt_trans lt ((P.zero z).2 hc)
theorem PInv.done {ss : List Step} {ch : Bool} (P : PInv S many rest start first ss c0 ss.length c tr ch) (h : ch = false) : ∀ s ∈ ss, shut c rest start first s := by
  intro s hs
  have e : ss.take ss.length = ss := List.take_length
  by_cases z : rest = 0
  · have := ((P.zero z).1 h).2 s
    rw [e] at this
    exact this hs
  · have := (P.pos z).2 s
    rw [e] at this
    exact this hs
theorem PInv.less {ss : List Step} {ch : Bool} {n : Nat} (P : PInv S many rest start first ss c0 n c tr ch) (h : ch = true) : mu ss start c < mu ss start c0 := by
  by_cases z : rest = 0
  · exact (P.zero z).2 h
  · rw [(P.pos z).1] at h
    cases h
theorem getD_some {α : Type} {l : List (Option α)} {i : Nat} {x : α} (h : l.getD i none = some x) : l[i]? = some (some x) := by
  rw [List.getD_eq_getElem?_getD] at h
  cases q : l[i]? with
  | none => rw [q] at h; cases h
  | some o => rw [q] at h; exact congrArg some h
theorem getD_of {α : Type} {l : List (Option α)} {i : Nat} {o : Option α} (h : l[i]? = some o) : l.getD i none = o := by
  rw [List.getD_eq_getElem?_getD, h]
  rfl
/-- clocks that no step lowers are the soonest comings -/
theorem soon_of (hS : ∀ s, S s → s.2.1 ≠ s.2.2 ∧ s.2.1 < many ∧ s.2.2 < many) (I : TInv S many rest start first c tr rk N) (h0 : 0 ≤ rest) (hc : ∀ s, S s → shut c rest start first s) : Soon S many rest start first c := by
  refine ⟨I.cl, I.cs, fun v hv hm => ⟨c.getD v none, ?_, fun t e => ?_, fun t h => ?_⟩⟩
  · rw [List.getD_eq_getElem?_getD, List.getElem?_eq_getElem (by rw [I.cl]; exact hm)]
    rfl
  · rcases I.node v hv hm with ⟨n1, _⟩ | ⟨s, _, n2, _, _, n5, _⟩
    · rw [n1] at e
      cases e
    · rw [n2] at e
      cases e
      exact n5
  · have key : ∀ v t, Comes S rest first start v t → v ≠ start → ∃ t0, c.getD v none = some t0 ∧ t0 ≤ t := by
      intro v t h
      have shutAt : ∀ s, S s → s.2.2 ≠ start → canGo c rest start first s = true → ∃ t0, c.getD s.2.2 none = some t0 ∧ t0 ≤ s.1 := fun s hs hne hg => by
        cases q : c.getD s.2.2 none with
        | none =>
          exfalso
          refine hc s hs ?_ hg
          unfold sooner
          rw [if_neg hne, q]
        | some t =>
          refine ⟨t, rfl, ?_⟩
          rcases Int.lt_or_le s.1 t with l | l
          · exfalso
            refine hc s hs ?_ hg
            unfold sooner
            rw [if_neg hne, q]
            exact decide_eq_true l
          · exact l
      induction h with
      | @one t v h1 h2 =>
        intro hne
        refine shutAt (t, start, v) h1 hne ?_
        unfold canGo
        rw [if_pos rfl]
        exact decide_eq_true h2
      | @more u v t t' h1 h2 h3 ih =>
        intro hne
        refine shutAt (t', u, v) h2 hne ?_
        unfold canGo
        by_cases e : u = start
        · rw [if_pos e]
          have := h1.ge h0
          exact decide_eq_true (show first ≤ t' by omega)
        · rw [if_neg e]
          obtain ⟨t0, e0, l0⟩ := ih e
          rw [show c.getD (t', u, v).2.1 none = some t0 from e0]
          exact decide_eq_true (show t0 + rest ≤ t' by omega)
    exact key v t h hv

/-! ### walks -/
def Goes (rest : Int) (a b : Step) : Prop := a.2.2 = b.2.1 ∧ a.1 + rest ≤ b.1
def Ch (rest : Int) (w : List Step) : Prop := ∀ i a b, w[i]? = some a → w[i + 1]? = some b → Goes rest a b
/-- a walk from u to v that leaves at t0 and comes at t1 -/
structure Walk (S : Step → Prop) (rest : Int) (u v : Nat) (t0 t1 : Int) (w : List Step) : Prop where
  all : ∀ s ∈ w, S s
  ch : Ch rest w
  first : ∃ s, w[0]? = some s ∧ s.2.1 = u ∧ s.1 = t0
  last : ∃ s, w[w.length - 1]? = some s ∧ s.2.2 = v ∧ s.1 = t1
theorem Walk.pos {u v : Nat} {t0 t1 : Int} {w : List Step} (h : Walk S rest u v t0 t1 w) : 0 < w.length := by
  obtain ⟨s, h, _⟩ := h.first
  exact (List.getElem?_eq_some_iff.mp h).1
theorem Walk.one {s : Step} (h : S s) : Walk S rest s.2.1 s.2.2 s.1 s.1 [s] :=
  ⟨fun r hr => by rw [List.mem_singleton.mp hr]; exact h, fun i a b h1 h2 => by simp at h2, ⟨s, rfl, rfl, rfl⟩, ⟨s, rfl, rfl, rfl⟩⟩
theorem Walk.append {u v x : Nat} {t0 t1 t2 t3 : Int} {w w' : List Step} (h : Walk S rest u v t0 t1 w) (h' : Walk S rest v x t2 t3 w') (le : t1 + rest ≤ t2) : Walk S rest u x t0 t3 (w ++ w') := by
  have p := h.pos
  have p' := h'.pos
  refine ⟨fun s hs => ?_, fun i a b h1 h2 => ?_, ?_, ?_⟩
  · rcases List.mem_append.mp hs with q | q
    · exact h.all s q
    · exact h'.all s q
  · by_cases hi : i + 1 < w.length
    · rw [List.getElem?_append_left (by omega)] at h1 h2
      exact h.ch i a b h1 h2
    · by_cases hi2 : i + 1 = w.length
      · rw [List.getElem?_append_left (by omega)] at h1
        rw [List.getElem?_append_right (by omega)] at h2
        obtain ⟨s, e1, e2, e3⟩ := h.last
        obtain ⟨s', f1, f2, f3⟩ := h'.first
        have ei : i = w.length - 1 := by omega
        rw [ei, e1] at h1
        cases h1
        have e0 : i + 1 - w.length = 0 := by omega
        rw [e0, f1] at h2
        cases h2
        exact ⟨by rw [e2, f2], by rw [e3, f3]; exact le⟩
      · rw [List.getElem?_append_right (by omega)] at h1 h2
        rw [show i + 1 - w.length = (i - w.length) + 1 by omega] at h2
        exact h'.ch _ a b h1 h2
  · obtain ⟨s, e, r⟩ := h.first
    exact ⟨s, by rw [List.getElem?_append_left p]; exact e, r⟩
  · obtain ⟨s, e, r⟩ := h'.last
    refine ⟨s, ?_, r⟩
    rw [List.getElem?_append_right (by rw [List.length_append]; omega), List.length_append]
    rw [show w.length + w'.length - 1 - w.length = w'.length - 1 by omega]
    exact e
theorem Walk.mono {S' : Step → Prop} {u v : Nat} {t0 t1 : Int} {w : List Step} (h : Walk S rest u v t0 t1 w) (hS : ∀ s, S s → S' s) : Walk S' rest u v t0 t1 w :=
  ⟨fun s hs => hS s (h.all s hs), h.ch, h.first, h.last⟩
def back (s : Step) : Step := (-s.1, s.2.2, s.2.1)
theorem Walk.turn {S' : Step → Prop} {u v : Nat} {t0 t1 : Int} {w : List Step} (h : Walk S rest u v t0 t1 w) (hS : ∀ s, S s → S' (back s)) : Walk S' rest v u (-t1) (-t0) (w.reverse.map back) := by
  have p := h.pos
  refine ⟨fun s hs => ?_, fun i a b h1 h2 => ?_, ?_, ?_⟩
  · obtain ⟨r, hr, e⟩ := List.mem_map.mp hs
    rw [← e]
    exact hS r (h.all r (List.mem_reverse.mp hr))
  · rw [List.getElem?_map] at h1 h2
    cases q1 : w.reverse[i]? with
    | none => rw [q1] at h1; cases h1
    | some a' =>
      cases q2 : w.reverse[i + 1]? with
      | none => rw [q2] at h2; cases h2
      | some b' =>
        rw [q1] at h1
        rw [q2] at h2
        cases h1
        cases h2
        have li : i + 1 < w.length := by
          have := (List.getElem?_eq_some_iff.mp q2).1
          rwa [List.length_reverse] at this
        rw [List.getElem?_reverse (by omega)] at q1 q2
        rw [show w.length - 1 - i = (w.length - 1 - (i + 1)) + 1 by omega] at q1
        obtain ⟨g1, g2⟩ := h.ch _ b' a' q2 q1
        refine ⟨g1.symm, ?_⟩
        show -a'.1 + rest ≤ -b'.1
        omega
  · obtain ⟨s, e, r1, r2⟩ := h.last
    refine ⟨back s, ?_, r1, by rw [← r2]; rfl⟩
    rw [List.getElem?_map, List.getElem?_reverse p]
    rw [show w.length - 1 - 0 = w.length - 1 by omega, e]
    rfl
  · obtain ⟨s, e, r1, r2⟩ := h.first
    refine ⟨back s, ?_, r1, by rw [← r2]; rfl⟩
    rw [List.getElem?_map, List.length_map, List.length_reverse, List.getElem?_reverse (by omega)]
    rw [show w.length - 1 - (w.length - 1) = 0 by omega, e]
    rfl

/-! ### the walk along a tree -/
inductive Along (tr : List (Option Step)) (start : Nat) : Nat → List Step → Prop
  | nil : Along tr start start []
  | cons {v : Nat} {s : Step} {w : List Step} : v ≠ start → tr[v]? = some (some s) → Along tr start s.2.1 w → Along tr start v (w ++ [s])
def ltC (c : List (Option Int)) (rk : Nat → Nat) (x v : Nat) : Bool := match c.getD x none, c.getD v none with
  | some a, some b => decide (a < b ∨ (a = b ∧ rk x < rk v))
  | _, _ => false
theorem ltC_trans {x y z : Nat} (h1 : ltC c rk x y = true) (h2 : ltC c rk y z = true) : ltC c rk x z = true := by
  unfold ltC at h1 h2 ⊢
  cases q1 : c.getD x none with
  | none => rw [q1] at h1; cases h1
  | some a =>
    cases q2 : c.getD y none with
    | none => rw [q1, q2] at h1; cases h1
    | some b =>
      cases q3 : c.getD z none with
      | none => rw [q2, q3] at h2; cases h2
      | some d =>
        rw [q1, q2] at h1
        rw [q2, q3] at h2
        have h1' := of_decide_eq_true h1
        have h2' := of_decide_eq_true h2
        exact decide_eq_true (by omega)
theorem ltC_irrefl (x : Nat) : ltC c rk x x = false := by
  unfold ltC
  cases q1 : c.getD x none with
  | none => rfl
  | some a => exact decide_eq_false (by omega)
def depth (many : Nat) (c : List (Option Int)) (rk : Nat → Nat) (v : Nat) : Nat := (List.range many).countP fun x => ltC c rk x v
theorem depth_lt {x v : Nat} (hx : x < many) (h : ltC c rk x v = true) : depth many c rk x < depth many c rk v :=
  countP_lt (fun y _ q => ltC_trans q h) ⟨x, List.mem_range.mpr hx, h, ltC_irrefl x⟩
theorem depth_le {v : Nat} : depth many c rk v ≤ many := by
  have := List.countP_le_length (p := fun x => ltC c rk x v) (l := List.range many)
  rw [List.length_range] at this
  exact this
theorem along_ex (hS : ∀ s, S s → s.2.1 ≠ s.2.2 ∧ s.2.1 < many ∧ s.2.2 < many) (I : TInv S many rest start first c tr rk N) : ∀ (n v : Nat) (t : Int), depth many c rk v ≤ n → v ≠ start → v < many → c.getD v none = some t →
    ∃ w t0, Along tr start v w ∧ Walk S rest start v t0 t w ∧ first ≤ t0 ∧ w.length ≤ n + 1
  | n, v, t, hd, hv, hm, hc => by
    rcases I.node v hv hm with ⟨n1, _⟩ | ⟨s, n1, n2, n3, n4, n5, n6⟩
    · rw [n1] at hc
      cases hc
    rw [n2] at hc
    cases hc
    rcases n6 with ⟨e, l⟩ | ⟨e, t', q1, q2, q3⟩
    · refine ⟨[s], s.1, ?_, ?_, l, by simp⟩
      · have : Along tr start v ([] ++ [s]) := .cons hv (getD_some n1) (by rw [e]; exact .nil)
        exact this
      · have := Walk.one (rest := rest) n3
        rw [e, n4] at this
        exact this
    · have lt : ltC c rk s.2.1 v = true := by
        unfold ltC
        rw [q1, n2]
        exact decide_eq_true q3
      have hlt := depth_lt (hS s n3).2.1 lt
      match n with
      | 0 => omega
      | n + 1 =>
        obtain ⟨w, t0, a1, a2, a3, a4⟩ := along_ex hS I n s.2.1 t' (by omega) e (hS s n3).2.1 q1
        refine ⟨w ++ [s], t0, .cons hv (getD_some n1) a1, ?_, a3, by rw [List.length_append, List.length_singleton]; omega⟩
        have := a2.append (Walk.one n3) q2
        rw [n4] at this
        exact this
/-- what the tree is good for -/
def TreeOk (S : Step → Prop) (many : Nat) (rest : Int) (start : Nat) (first : Int) (c : List (Option Int)) (tr : List (Option Step)) : Prop :=
  tr.length = many ∧ ∀ v t, v ≠ start → v < many → c[v]? = some (some t) → ∃ w t0, Along tr start v w ∧ Walk S rest start v t0 t w ∧ first ≤ t0 ∧ w.length ≤ many + 1
theorem tree_of (hS : ∀ s, S s → s.2.1 ≠ s.2.2 ∧ s.2.1 < many ∧ s.2.2 < many) (I : TInv S many rest start first c tr rk N) : TreeOk S many rest start first c tr :=
  ⟨I.tl, fun v t hv hm hc => along_ex hS I many v t depth_le hv hm (getD_of hc)⟩
end
end Wm
end
section
set_option linter.all false
set_option autoImplicit false
/-! What the law asks, as mathematics. -/
namespace Wm
section
variable {S S' : Step → Prop} {many : Nat} {rest rest' first first' : Int} {start : Nat} {c c' : List (Option Int)}
theorem Soon.shift {d : Int} (h : Soon S many rest start first c) (h1 : ∀ s : Step, S s → S' (s.1 + d, s.2.1, s.2.2)) (h2 : ∀ s : Step, S' s → S (s.1 - d, s.2.1, s.2.2)) : Soon S' many rest start (first + d) (c.map (Option.map (· + d))) := by
  obtain ⟨a1, a2, a3⟩ := h
  refine ⟨by rw [List.length_map]; exact a1, by rw [List.getElem?_map, a2]; rfl, fun v hv hm => ?_⟩
  obtain ⟨o, ho, ha, hb⟩ := a3 v hv hm
  refine ⟨o.map (· + d), by rw [List.getElem?_map, ho]; rfl, fun t e => ?_, fun t h => ?_⟩
  · cases o with
    | none => cases e
    | some t0 =>
      have e' : t0 + d = t := Option.some.inj e
      rw [← e']
      exact (ha t0 rfl).shift h1
  · have := h.shift (S' := S) (d := -d) fun s hs => h2 s hs
    rw [show first + d + -d = first by omega] at this
    obtain ⟨t0, e, l⟩ := hb _ this
    exact ⟨t0 + d, by rw [e]; rfl, by omega⟩
theorem Soon.mono (h : Soon S many rest start first c) (h' : Soon S' many rest' start first' c') (hS : ∀ s, S s → S' s) (hr : rest' ≤ rest) (hf : first' ≤ first) :
    ∀ (v : Nat) (t : Int), c[v]? = some (some t) → ∃ t', c'[v]? = some (some t') ∧ t' ≤ t := by
  intro v t e
  obtain ⟨a1, a2, a3⟩ := h
  obtain ⟨b1, b2, b3⟩ := h'
  by_cases hv : v = start
  · subst hv
    rw [a2] at e
    cases e
    exact ⟨first', b2, hf⟩
  · have hm : v < many := by
      have := (List.getElem?_eq_some_iff.mp e).1
      omega
    obtain ⟨o, ho, ha, _⟩ := a3 v hv hm
    rw [ho] at e
    cases e
    obtain ⟨o', ho', _, hb⟩ := b3 v hv hm
    obtain ⟨t0, e0, l⟩ := hb t ((ha t rfl).mono hS hr hf)
    exact ⟨t0, by rw [ho', e0], l⟩
theorem Soon.names {o : Nat → Nat} (h : Soon S many rest start first c) (h' : Soon S' many rest (o start) first c') (hin : ∀ s, S s → s.2.1 < many ∧ s.2.2 < many) (lt : ∀ v, v < many → o v < many) (inj : ∀ u v, u < many → v < many → o u = o v → u = v)
    (h1 : ∀ s : Step, S s → S' (s.1, o s.2.1, o s.2.2)) (h2 : ∀ s : Step, S' s → ∃ u v, s.2.1 = o u ∧ s.2.2 = o v ∧ S (s.1, u, v)) : ∀ v : Nat, v < many → c'[o v]? = c[v]? := by
  intro v hm
  have sm := h.start_lt
  obtain ⟨a1, a2, a3⟩ := h
  obtain ⟨b1, b2, b3⟩ := h'
  by_cases hv : v = start
  · subst hv
    rw [a2, b2]
  · have hov : o v ≠ o start := fun e => hv (inj v start hm sm e)
    obtain ⟨x, hx, xa, xb⟩ := a3 v hv hm
    obtain ⟨y, hy, ya, yb⟩ := b3 (o v) hov (lt v hm)
    have back : ∀ t, Comes S' rest first (o start) (o v) t → Comes S rest first start v t := fun t ht => by
      have inj2 : ∀ s : Step, S s → ∀ r : Step, S r → ∀ a b, (a = s.2.1 ∨ a = s.2.2) → (b = r.2.1 ∨ b = r.2.2) → o a = o b → a = b := fun s hs r hr a b ha hb e => by
        have h3 := hin s hs
        have h4 := hin r hr
        refine inj a b ?_ ?_ e
        · rcases ha with z | z <;> omega
        · rcases hb with z | z <;> omega
      obtain ⟨v', u, t0, e, hs, hc⟩ := ht.unname (S := S) h2 inj2 (fun s hs e => inj _ _ (hin s hs).1 sm e)
      have : v = v' := inj v v' hm (hin _ hs).2 e
      rw [this]
      exact hc
    rw [hx, hy]
    congr 1
    cases x with
    | none =>
      cases y with
      | none => rfl
      | some t =>
        obtain ⟨_, e, _⟩ := xb _ (back t (ya t rfl))
        cases e
    | some t =>
      obtain ⟨t0, e, l⟩ := yb _ ((xa t rfl).rename h1)
      subst e
      obtain ⟨t1, e, l1⟩ := xb _ (back t0 (ya t0 rfl))
      cases e
      have : t = t0 := by omega
      rw [this]
end
/-! ### latest leavings -/
def neg (o : Option Int) : Option Int := o.map fun t => 0 - t
/-- told: what latest_to tells -/
def Late (W : Web) (rest : Int) (goal : Nat) (last : Int) (l : List (Option Int)) : Prop := ∃ c, Soon (StT W) W.many rest goal (0 - last) c ∧ l = c.map neg
theorem neg_neg (o : Option Int) : neg (neg o) = o := by
  cases o with
  | none => rfl
  | some t =>
    show some (0 - (0 - t)) = some t
    congr 1
    omega
section
variable {W W' : Web} {rest rest' last last' : Int} {goal start : Nat} {l l' : List (Option Int)}
theorem Late.length (h : Late W rest goal last l) : l.length = W.many := by
  obtain ⟨c, hc, rfl⟩ := h
  rw [List.length_map]
  exact hc.1
theorem Late.unique (h : Late W rest goal last l) (h' : Late W rest goal last l') : l = l' := by
  obtain ⟨c, hc, rfl⟩ := h
  obtain ⟨c', hc', rfl⟩ := h'
  rw [hc.unique hc']
/-- the web put off -/
theorem Late.later {d : Int} (h : Late W rest goal last l) (h' : Late W' rest goal (last + d) l') (hm : W'.many = W.many) (h1 : ∀ s : Step, St W s → St W' (s.1 + d, s.2.1, s.2.2)) (h2 : ∀ s : Step, St W' s → St W (s.1 - d, s.2.1, s.2.2)) :
    l' = l.map (Option.map (· + d)) := by
  obtain ⟨c, hc, rfl⟩ := h
  obtain ⟨c', hc', rfl⟩ := h'
  have hs : Soon (StT W') W.many rest goal (0 - last + -d) (c.map (Option.map (· + -d))) := hc.shift (fun s hs => by
    show St W' (-(s.1 + -d), s.2.1, s.2.2)
    have := h1 _ hs
    rw [show -(s.1 + -d) = -s.1 + d by omega]
    exact this) fun s hs => by
    show St W (-(s.1 - -d), s.2.1, s.2.2)
    have := h2 _ hs
    rw [show -(s.1 - -d) = -s.1 - d by omega]
    exact this
  rw [hm, show 0 - (last + d) = 0 - last + -d by omega] at hc'
  rw [hc'.unique hs, List.map_map, List.map_map]
  refine List.map_congr_left fun o _ => ?_
  cases o with
  | none => rfl
  | some t =>
    show some (0 - (t + -d)) = some (0 - t + d)
    congr 1
    omega
/-- the web renamed -/
theorem Late.names {o : Nat → Nat} (h : Late W rest goal last l) (h' : Late W' rest (o goal) last l') (hm : W'.many = W.many) (hW : WebOk W) (lt : ∀ v, v < W.many → o v < W.many) (inj : ∀ u v, u < W.many → v < W.many → o u = o v → u = v)
    (h1 : ∀ s : Step, St W s → St W' (s.1, o s.2.1, o s.2.2)) (h2 : ∀ s : Step, St W' s → ∃ u v, s.2.1 = o u ∧ s.2.2 = o v ∧ St W (s.1, u, v)) : ∀ v : Nat, v < W.many → l'[o v]? = l[v]? := by
  intro v hv
  obtain ⟨c, hc, rfl⟩ := h
  obtain ⟨c', hc', rfl⟩ := h'
  rw [hm] at hc'
  rw [List.getElem?_map, List.getElem?_map, hc.names hc' (fun s hs => (hW.st hs).2) lt inj (fun s hs => h1 _ hs) (fun s hs => h2 _ hs) v hv]
/-- the web kept to the moment -/
theorem Late.kept (h : Late W rest goal last l) (h' : Late W' rest goal last l') (hm : W'.many = W.many) (h0 : 0 ≤ rest) (h1 : ∀ s : Step, St W' s → St W s) (h2 : ∀ s : Step, St W s → s.1 ≤ last → St W' s) : l' = l := by
  obtain ⟨c, hc, rfl⟩ := h
  obtain ⟨c', hc', rfl⟩ := h'
  rw [hm] at hc'
  have hs : Soon (StT W') W.many rest goal (0 - last) c := hc.congr fun v t _ => ⟨fun q => q.cut h0 fun s hs le => h2 _ hs (by show -s.1 ≤ last; omega), fun q => q.mono (fun s hs => h1 _ hs) (Int.le_refl _) (Int.le_refl _)⟩
  rw [hc'.unique hs]
/-- each of the one list is there and as late where the other one's is -/
def NoSooner (more less : List (Option Int)) : Prop := ∀ (i : Nat) (x : Int), less[i]? = some (some x) → ∃ y, more[i]? = some (some y) ∧ x ≤ y
theorem Late.more (h : Late W rest goal last l) (h' : Late W' rest' goal last' l') (hm : W'.many = W.many) (hS : ∀ s : Step, St W s → St W' s) (hr : rest' ≤ rest) (hl : last ≤ last') : NoSooner l' l := by
  intro i x e
  obtain ⟨c, hc, rfl⟩ := h
  obtain ⟨c', hc', rfl⟩ := h'
  rw [hm] at hc'
  rw [List.getElem?_map] at e
  cases q : c[i]? with
  | none => rw [q] at e; cases e
  | some o =>
    rw [q] at e
    cases o with
    | none => cases e
    | some t =>
      have e' : 0 - t = x := Option.some.inj (Option.some.inj e)
      obtain ⟨t', h1, h2⟩ := hc.mono hc' (fun s hs => hS _ hs) hr (show 0 - last' ≤ 0 - last by omega) i t q
      refine ⟨0 - t', ?_, by omega⟩
      rw [List.getElem?_map, h1]
      rfl
end

/-! ### plain walks -/
theorem Walk.cons {S : Step → Prop} {rest : Int} {v : Nat} {t0 t1 : Int} {w : List Step} {s : Step} (h : Walk S rest s.2.2 v t0 t1 w) (hs : S s) (le : s.1 + rest ≤ t0) : Walk S rest s.2.1 v s.1 t1 (s :: w) :=
  (Walk.one hs).append h le
theorem Walk.uncons {S : Step → Prop} {rest : Int} {u v : Nat} {t0 t1 : Int} {w : List Step} {s r : Step} (h : Walk S rest u v t0 t1 (s :: r :: w)) : S s ∧ s.2.1 = u ∧ s.1 = t0 ∧ s.1 + rest ≤ r.1 ∧ Walk S rest s.2.2 v r.1 t1 (r :: w) := by
  obtain ⟨x, hx, h1, h2⟩ := h.first
  have ex : s = x := Option.some.inj hx
  subst ex
  obtain ⟨g1, g2⟩ := h.ch 0 s r rfl rfl
  refine ⟨h.all s List.mem_cons_self, h1, h2, g2, fun y hy => h.all y (List.mem_cons_of_mem _ hy), fun i a b q1 q2 => h.ch (i + 1) a b q1 q2, ⟨r, rfl, g1.symm, rfl⟩, ?_⟩
  obtain ⟨y, hy, f⟩ := h.last
  exact ⟨y, hy, f⟩
abbrev tos (w : List Step) : List Nat := w.map fun s => s.2.2
structure Plain (S : Step → Prop) (rest : Int) (u v : Nat) (t0 t1 : Int) (w : List Step) : Prop where
  walk : Walk S rest u v t0 t1 w
  once : (u :: tos w).Nodup
section
variable {S : Step → Prop} {rest : Int} {u v : Nat} {t0 t1 : Int}
/-- what is left of a plain walk behind a place on it -/
theorem Plain.rest_of (h0 : 0 ≤ rest) : ∀ {w : List Step} {u : Nat} {t0 : Int}, Plain S rest u v t0 t1 w → ∀ x, x ∈ tos w → x ≠ v → ∃ w' t0', Plain S rest x v t0' t1 w' ∧ t0 ≤ t0'
  | [], u, t0, h, x, hx, _ => by cases hx
  | [s], u, t0, h, x, hx, hne => by
    obtain ⟨y, hy, e, _⟩ := h.walk.last
    have ey : s = y := Option.some.inj hy
    have ex : x = s.2.2 := by simpa using hx
    exact absurd (by rw [ex, ey, e]) hne
  | s :: r :: w, u, t0, h, x, hx, hne => by
    obtain ⟨h1, h2, h3, h4, h5⟩ := h.walk.uncons
    have on : (s.2.2 :: tos (r :: w)).Nodup := (List.nodup_cons.mp h.once).2
    have P : Plain S rest s.2.2 v r.1 t1 (r :: w) := ⟨h5, on⟩
    rcases List.mem_cons.mp hx with e | hx
    · exact ⟨r :: w, r.1, by rw [e]; exact P, by omega⟩
    · obtain ⟨w', t0', P', le⟩ := P.rest_of h0 x hx hne
      exact ⟨w', t0', P', by omega⟩
/-- a walk that comes by the moment, out of a coming in the web turned about -/
theorem plain_of {W : Web} {last : Int} {goal : Nat} (hW : WebOk W) (h0 : 0 ≤ rest) {v : Nat} {t : Int} (h : Comes (StT W) rest (0 - last) goal v t) : v ≠ goal → ∃ w t0 t1, Plain (St W) rest v goal t0 t1 w ∧ 0 - t ≤ t0 ∧ t1 ≤ last := by
  have sym : ∀ {t : Int} {a b : Nat}, StT W (t, a, b) → St W (-t, b, a) := fun h => h.symm
  induction h with
  | @one t v h1 h2 =>
    intro hv
    have hs : St W (-t, v, goal) := sym h1
    have := Walk.one (rest := rest) hs
    refine ⟨[(-t, v, goal)], -t, -t, ⟨this, ?_⟩, by omega, by omega⟩
    show [v, goal].Nodup
    simpa using hv
  | @more u v t t' h1 h2 h3 ih =>
    intro hv
    have hs : St W (-t', v, u) := sym h2
    have ge := h1.ge h0
    by_cases hu : u = goal
    · subst hu
      have := Walk.one (rest := rest) hs
      refine ⟨[(-t', v, u)], -t', -t', ⟨this, ?_⟩, by omega, by omega⟩
      show [v, u].Nodup
      simpa using hv
    · obtain ⟨w, a, b, P, l1, l2⟩ := ih hu
      by_cases hm : v ∈ tos w
      · obtain ⟨w', a', P', l⟩ := P.rest_of h0 v hm hv
        exact ⟨w', a', b, P', by omega, l2⟩
      · have C : Walk (St W) rest v goal (-t') b ((-t', v, u) :: w) := P.walk.cons (s := (-t', v, u)) hs (by show -t' + rest ≤ a; omega)
        refine ⟨_, -t', b, ⟨C, ?_⟩, by omega, l2⟩
        have ne : v ≠ u := (hW.st hs).1
        show (v :: u :: tos w).Nodup
        refine List.nodup_cons.mpr ⟨fun q => ?_, P.once⟩
        rcases List.mem_cons.mp q with q | q
        · exact ne q
        · exact hm q
theorem comes_of {W : Web} {last : Int} {goal : Nat} : ∀ {w : List Step} {u : Nat} {t0 t1 : Int}, Walk (St W) rest u goal t0 t1 w → t1 ≤ last → Comes (StT W) rest (0 - last) goal u (0 - t0)
  | [], _, _, _, h, _ => absurd h.pos (by simp)
  | [s], u, t0, t1, h, hl => by
    obtain ⟨x, hx, h1, h2⟩ := h.first
    obtain ⟨y, hy, h3, h4⟩ := h.last
    have ex : s = x := Option.some.inj hx
    have ey : s = y := Option.some.inj hy
    subst ex
    subst ey
    have hs := h.all s List.mem_cons_self
    rw [← h1]
    refine .one ?_ (by omega)
    have : StT W (0 - t0, s.2.2, s.2.1) := by
      show St W (-(0 - t0), s.2.2, s.2.1)
      rw [show -(0 - t0) = s.1 by omega]
      exact hs.symm
    rw [h3] at this
    exact this
  | s :: r :: w, u, t0, t1, h, hl => by
    obtain ⟨h1, h2, h3, h4, h5⟩ := h.uncons
    have ih := comes_of h5 hl
    rw [← h2]
    refine .more ih ?_ (by omega)
    show St W (-(0 - t0), s.2.2, s.2.1)
    rw [show -(0 - t0) = s.1 by omega]
    exact h1.symm
/-- the latest leaving of all plain walks that come by the moment -/
theorem Late.walks {W : Web} {last : Int} {goal start : Nat} {l : List (Option Int)} (hW : WebOk W) (h0 : 0 ≤ rest) (h : Late W rest goal last l) (hs : start < W.many) (hne : start ≠ goal) {ns : List Int} (hns : ∀ x, x ∈ ns ↔ ∃ w t1, Plain (St W) rest start goal x t1 w ∧ t1 ≤ last) {o : Option Int}
    (ho : (ns = [] ∧ o = none) ∨ ∃ m, o = some m ∧ m ∈ ns ∧ ∀ y ∈ ns, y ≤ m) : l[start]? = some o := by
  obtain ⟨c, hc, rfl⟩ := h
  obtain ⟨a1, a2, a3⟩ := hc
  obtain ⟨x, hx, xa, xb⟩ := a3 start hne hs
  rw [List.getElem?_map, hx]
  show some (neg x) = some o
  congr 1
  cases x with
  | none =>
    rcases ho with ⟨_, e⟩ | ⟨m, e, hm, _⟩
    · rw [e]; rfl
    · obtain ⟨w, t1, P, le⟩ := (hns m).mp hm
      obtain ⟨_, z, _⟩ := xb _ (comes_of P.walk le)
      cases z
  | some t =>
    obtain ⟨w, b0, b1, P, l1, l2⟩ := plain_of hW h0 (xa t rfl) hne
    have hb : b0 ∈ ns := (hns b0).mpr ⟨w, b1, P, l2⟩
    rcases ho with ⟨e, _⟩ | ⟨m, e, hm, hmax⟩
    · rw [e] at hb
      cases hb
    · obtain ⟨w', t1', P', le'⟩ := (hns m).mp hm
      obtain ⟨t2, z, l3⟩ := xb _ (comes_of P'.walk le')
      cases z
      have := hmax b0 hb
      rw [e]
      show some (0 - t) = some m
      congr 1
      omega
end

/-! ### how plain_walks finds them -/
inductive Compl (ss : List Step) (rest : Int) (goal : Nat) : List Step → List Nat → List Step → Prop
  | done {walk : List Step} {places : List Nat} : places.getLast? = some goal → Compl ss rest goal walk places walk
  | go {walk w : List Step} {places : List Nat} {p : Nat} {s : Step} : places.getLast? = some p → p ≠ goal → s ∈ ss → s.2.1 = p → s.2.2 ∉ places → (∀ x, walk.getLast? = some x → Goes rest x s) →
      Compl ss rest goal (walk ++ [s]) (places ++ [s.2.2]) w → Compl ss rest goal walk places w
section
variable {ss : List Step} {rest : Int} {goal start : Nat}
/-- a walk so far, with its places -/
structure SoFar (ss : List Step) (rest : Int) (start : Nat) (walk : List Step) (places : List Nat) : Prop where
  all : ∀ s ∈ walk, s ∈ ss
  ch : Ch rest walk
  pl : places = start :: tos walk
  once : places.Nodup
  first : ∀ s, walk[0]? = some s → s.2.1 = start
theorem SoFar.new : SoFar ss rest start [] [start] := ⟨fun s h => (by cases h), fun i a b h1 h2 => (by simp at h1), rfl, by simp, fun s h => by simp at h⟩
theorem SoFar.last {walk : List Step} {places : List Nat} (h : SoFar ss rest start walk places) : places.getLast? = some ((walk.getLast?.map fun s => s.2.2).getD start) := by
  rw [h.pl]
  cases walk with
  | nil => rfl
  | cons a r =>
    rw [List.getLast?_cons]
    show some ((tos (a :: r)).getLast?.getD start) = _
    rw [List.getLast?_map]
theorem SoFar.more {walk : List Step} {places : List Nat} {s : Step} {p : Nat} (h : SoFar ss rest start walk places) (hp : places.getLast? = some p) (hs : s ∈ ss) (hf : s.2.1 = p) (hn : s.2.2 ∉ places) (hg : ∀ x, walk.getLast? = some x → Goes rest x s) :
    SoFar ss rest start (walk ++ [s]) (places ++ [s.2.2]) := by
  refine ⟨fun r hr => ?_, fun i a b h1 h2 => ?_, by rw [h.pl]; show start :: tos walk ++ [s.2.2] = start :: (walk ++ [s]).map _; rw [List.map_append]; rfl, ?_, fun r hr => ?_⟩
  · rcases List.mem_append.mp hr with q | q
    · exact h.all r q
    · rw [List.mem_singleton.mp q]; exact hs
  · by_cases hi : i + 1 < walk.length
    · rw [List.getElem?_append_left (by omega)] at h1 h2
      exact h.ch i a b h1 h2
    · have hl := (List.getElem?_eq_some_iff.mp h2).1
      rw [List.length_append, List.length_singleton] at hl
      rw [List.getElem?_append_left (by omega)] at h1
      rw [List.getElem?_append_right (by omega), show i + 1 - walk.length = 0 by omega] at h2
      have e : s = b := Option.some.inj h2
      rw [← e]
      refine hg a ?_
      rw [List.getLast?_eq_getElem?, show walk.length - 1 = i by omega]
      exact h1
  · rw [List.nodup_append]
    refine ⟨h.once, by simp, fun a ha b hb e => ?_⟩
    rw [List.mem_singleton.mp hb] at e
    exact hn (e ▸ ha)
  · cases walk with
    | nil =>
      have e : s = r := Option.some.inj hr
      have := h.last
      rw [hp] at this
      have ep : p = start := Option.some.inj this
      rw [← e, hf, ep]
    | cons a q => exact h.first r hr
theorem Compl.sound {walk w : List Step} {places : List Nat} (h : Compl ss rest goal walk places w) (hs : SoFar ss rest start walk places) : ∃ pl, SoFar ss rest start w pl ∧ pl.getLast? = some goal := by
  induction h with
  | done h1 => exact ⟨_, hs, h1⟩
  | go h1 _ h3 h4 h5 h6 _ ih => exact ih (hs.more h1 h3 h4 h5 h6)
theorem Compl.plain {S : Step → Prop} {w : List Step} (hS : ∀ s, s ∈ ss → S s) (hne : start ≠ goal) (h : Compl ss rest goal [] [start] w) : ∃ t0 t1, Plain S rest start goal t0 t1 w := by
  obtain ⟨pl, hs, hl⟩ := h.sound SoFar.new
  have hz := hs.last
  rw [hl] at hz
  have e := Option.some.inj hz
  cases w with
  | nil => exact absurd e.symm hne
  | cons a r =>
    have hlast : (a :: r).getLast? = some ((a :: r)[r.length]) := by rw [List.getLast?_eq_getElem?]; exact List.getElem?_eq_getElem (by simp)
    rw [hlast] at e
    refine ⟨a.1, _, ⟨fun s q => hS s (hs.all s q), hs.ch, ⟨a, rfl, hs.first a rfl, rfl⟩, ⟨(a :: r)[r.length], List.getElem?_eq_getElem (by simp), e.symm, rfl⟩⟩, ?_⟩
    have := hs.once
    rw [hs.pl] at this
    exact this
theorem compl_of {S : Step → Prop} {t0 t1 : Int} {w : List Step} (hS : ∀ s, S s → s ∈ ss) (h : Plain S rest start goal t0 t1 w) : Compl ss rest goal [] [start] w := by
  have key : ∀ (r walk : List Step), w = walk ++ r → SoFar ss rest start walk (start :: tos walk) → Compl ss rest goal walk (start :: tos walk) w := by
    intro r
    induction r with
    | nil =>
      intro walk e hs
      rw [List.append_nil] at e
      subst e
      refine .done ?_
      rw [hs.last]
      obtain ⟨s, h1, h2, _⟩ := h.walk.last
      rw [List.getLast?_eq_getElem?, h1]
      show some s.2.2 = _
      rw [h2]
    | cons s r ih =>
      intro walk e hs
      have hm : s ∈ w := by rw [e]; exact List.mem_append_right _ List.mem_cons_self
      have on := h.once
      have etos : start :: tos w = (start :: tos walk) ++ (s.2.2 :: tos r) := by
        rw [e]
        show start :: (walk ++ s :: r).map _ = _
        rw [List.map_append]
        rfl
      rw [etos, List.nodup_append] at on
      obtain ⟨on1, on2, on3⟩ := on
      have hn : s.2.2 ∉ start :: tos walk := fun q => on3 _ q _ List.mem_cons_self rfl
      have hat : w[walk.length]? = some s := by
        rw [e, List.getElem?_append_right (Nat.le_refl _), Nat.sub_self]
        rfl
      have hgo : ∀ x, walk.getLast? = some x → Goes rest x s := fun x hx => by
        rw [List.getLast?_eq_getElem?] at hx
        have hlen := (List.getElem?_eq_some_iff.mp hx).1
        refine h.walk.ch (walk.length - 1) x s ?_ ?_
        · rw [e, List.getElem?_append_left hlen]
          exact hx
        · rw [show walk.length - 1 + 1 = walk.length by omega]
          exact hat
      have hfrom : s.2.1 = (walk.getLast?.map fun s => s.2.2).getD start := by
        cases q : walk.getLast? with
        | none =>
          have ew := List.getLast?_eq_none_iff.mp q
          obtain ⟨x, hx, h2, _⟩ := h.walk.first
          rw [e, ew] at hx
          have ex : s = x := Option.some.inj hx
          rw [ex]
          exact h2
        | some x => exact (hgo x q).1.symm
      have hp := hs.last
      rw [← hfrom] at hp
      have hgoal : s.2.1 ≠ goal := by
        intro z
        -- the goal stands last and once
        obtain ⟨y, h1, h2, _⟩ := h.walk.last
        have ing : goal ∈ s.2.2 :: tos r := by
          have : y ∈ s :: r := by
            rw [e, List.getElem?_append_right (by rw [List.length_append, List.length_cons]; omega)] at h1
            exact List.mem_of_getElem? h1
          have := List.mem_map_of_mem (f := fun s : Step => s.2.2) this
          rw [h2] at this
          exact this
        have inw : s.2.1 ∈ start :: tos walk := by
          have := List.mem_of_getLast? hp
          exact this
        exact on3 _ inw _ ing z
      have nxt := ih (walk ++ [s]) (by rw [e, List.append_assoc]; rfl) (by
        have := hs.more hp (hS s (h.walk.all s hm)) rfl hn hgo
        rw [show start :: tos (walk ++ [s]) = (start :: tos walk) ++ [s.2.2] by rw [show tos (walk ++ [s]) = tos walk ++ [s.2.2] from List.map_append]; rfl]
        exact this)
      rw [show start :: tos (walk ++ [s]) = (start :: tos walk) ++ [s.2.2] by rw [show tos (walk ++ [s]) = tos walk ++ [s.2.2] from List.map_append]; rfl] at nxt
      exact .go hp hgoal (hS s (h.walk.all s hm)) rfl hn hgo nxt
  exact key w [] rfl SoFar.new
/-- of numbers below n, unlike, there are at most n -/
theorem nodup_len : ∀ (n : Nat) (l : List Nat), l.Nodup → (∀ x ∈ l, x < n) → l.length ≤ n
  | 0, [], _, _ => Nat.le_refl _
  | 0, x :: _, _, h => absurd (h x List.mem_cons_self) (Nat.not_lt_zero _)
  | n + 1, l, hn, h => by
    have e := nodup_len n (l.erase n) (hn.erase n) fun x hx => by
      have h1 := h x (List.mem_of_mem_erase hx)
      have h2 : x ≠ n := fun q => by
        rw [q] at hx
        exact (List.Nodup.mem_erase_iff hn).mp hx |>.1 rfl
      omega
    rw [List.length_erase] at e
    split at e <;> omega
end
end Wm
end
section
set_option linter.all false
namespace Wm
open PySem PySem.Spec PyProof.Rows L2
def top (i : Nat) : Stmt := PySem.Challenge.pw_whenmeet_k24_whole_latest_as_webs_change.main.body.getD i (.Pass ⟨0, 0, 0, 0⟩)
abbrev s_risen_meet : Stmt := top 7
abbrev s_put_meet : Stmt := top 8
abbrev s_less_meet : Stmt := top 9
abbrev s_turned_web : Stmt := top 10
abbrev s_later_web : Stmt := top 11
abbrev s_kept_web : Stmt := top 12
abbrev s_renamed_web : Stmt := top 13
abbrev s_is_step : Stmt := top 16
abbrev s_steps_of : Stmt := top 17
abbrev s_goes_on : Stmt := top 18
abbrev s_walk_right : Stmt := top 19
abbrev s_walk_ends : Stmt := top 20
abbrev s_put_walks : Stmt := top 21
abbrev s_plain_walks : Stmt := top 22
abbrev s_turned_walk : Stmt := top 23
abbrev s_can_go : Stmt := top 25
abbrev s_is_sooner : Stmt := top 26
abbrev s_soonest_tree : Stmt := top 27
abbrev s_soonest_from : Stmt := top 28
abbrev s_walk_along : Stmt := top 29
abbrev s_soonest_walk : Stmt := top 30
abbrev s_turned_moment : Stmt := top 32
abbrev s_turned_list : Stmt := top 33
abbrev s_latest_to : Stmt := top 34
abbrev s_latest_walk : Stmt := top 35
abbrev s_has_slack : Stmt := top 36
abbrev s_in_time : Stmt := top 37
abbrev s_l_pool : Stmt := top 39
abbrev s_l_next : Stmt := top 40
abbrev s_l_wide : Stmt := top 41
abbrev s_l_moment : Stmt := top 42
abbrev s_l_web : Stmt := top 43
abbrev s_l_rest : Stmt := top 44
abbrev s_l_till : Stmt := top 45
abbrev s_l_folded : Stmt := top 46
abbrev s_l_no_sooner : Stmt := top 47
abbrev s_l_order : Stmt := top 48
abbrev s_l_put_off : Stmt := top 49
abbrev s_l_moved_right : Stmt := top 50
abbrev s_l_changed_right : Stmt := top 51
abbrev s_l_by_walks : Stmt := top 52
abbrev s_l_walks_right : Stmt := top 53
abbrev s_l_put_together : Stmt := top 54
abbrev s_law : Stmt := top 55
end Wm
end
section
set_option Elab.async false
set_option linter.all false
set_option maxRecDepth 100000
set_option maxHeartbeats 4000000
/-! What stands of the program behind its top; calls; data in the heap. -/
namespace Wm
open PySem PySem.Spec PyProof.Rows L2
/-- the names that the module leaves to the built-ins, its numbers, its error -/
structure Tp (K : PySem.W.Frag) (mg : Str → Option Value) : Prop where
  len : mg "len" = none
  min : mg "min" = none
  max : mg "max" = none
  sorted : mg "sorted" = none
  tuple : mg "tuple" = none
  range : mg "range" = none
  zip : mg "zip" = none
  all : mg "all" = none
  meets : ∃ t, mg "MOST_MEETS" = some (.int 24 t)
  walks : ∃ t, mg "MOST_WALKS" = some (.int 100 t)
/-- a def of the top, as it stands -/
def Here (K : PySem.W.Frag) (mg : Str → Option Value) (x : Str) (st : Stmt) : Prop := ∃ (f : Addr) (fd : FuncData), mg x = some (.ref f) ∧ FunD K x x (defArgs st) (defBody st) (defScope st) [] [] f fd
/-- .. with its promise -/
def Fn (P : Program) (w : World) (K : PySem.W.Frag) (mg : Str → Option Value) (base : Heap) (CX : CXT) (k : Nat) (x : Str) (ps : List Str) (sp : Sp) : Prop :=
  ∃ (f : Addr) (fd : FuncData), FnOk P w K mg base CX k f fd ps sp ∧ mg x = some (.ref f) ∧ PySem.W.keepIn K (.ref f) = true ∧ Binds K fd ps []
theorem Fn.imp {P : Program} {w : World} {K : PySem.W.Frag} {mg : Str → Option Value} {base : Heap} {CX : CXT} {k : Nat} {x : Str} {ps : List Str} {sp sp' : Sp} (F : Fn P w K mg base CX k x ps sp) (h : ∀ vs H Q E, sp' vs H Q E → sp vs H Q E) : Fn P w K mg base CX k x ps sp' := by
  obtain ⟨f, fd, G, r⟩ := F
  exact ⟨f, fd, G.imp h, r⟩
section
variable {P : Program} {w : World} {K : PySem.W.Frag} {mg : Str → Option Value} {base : Heap} {x : Str} {st : Stmt} {N ps : List Str} {k : Nat} {sp : Sp}
theorem fn_mk (hh : Here K mg x st) (S : FnScope N ps (defScope st)) (len : ∀ vs H Q E, sp vs H Q E → vs.length = ps.length)
    (hb : ∀ (kV doc pm : Value) (an : Option Addr) (cdv ct : Value) (us : List Value), us.length = ps.length → bindArgs (PySem.W.fnOf x x (defArgs st) (defBody st) (defScope st) .none kV doc pm an cdv ct) ⟨us, []⟩ = pure (ps.zip us))
    (hbody : ∀ (f : Addr) (cdv : Value) (A : Around) (outer : List Env) (s : Shared) (H : Hp) (vs : List V) (Q : VK) (E : XK), Room k (A.deeper (envOfC x (defScope st) s.heap.objs.size f cdv)) → sp vs H Q E →
      ∃ t, PSs (cxOf CX0 P w K mg base N x (defScope st) f cdv A outer s H E).nox (defBody st) t ∧ t { nx := fun _ H' => Q .non H', rt := Q } (start N vs) H) : Fn P w K mg base CX0 (k + 1) x ps sp := by
  obtain ⟨f, fd, hm, F⟩ := hh
  refine ⟨f, fd, F.ok S len fun cdv A outer s H vs Q E hr h => ?_, hm, F.kp, F.bindsN hb⟩
  obtain ⟨t, h1, h2⟩ := hbody f cdv A outer s H vs Q E hr h
  exact ⟨t, h1.nox, h2⟩
theorem fn_mkX (hh : Here K mg x st) (S : FnScope N ps (defScope st)) (len : ∀ vs H Q E, sp vs H Q E → vs.length = ps.length)
    (hb : ∀ (kV doc pm : Value) (an : Option Addr) (cdv ct : Value) (us : List Value), us.length = ps.length → bindArgs (PySem.W.fnOf x x (defArgs st) (defBody st) (defScope st) .none kV doc pm an cdv ct) ⟨us, []⟩ = pure (ps.zip us))
    (hbody : ∀ (f : Addr) (cdv : Value) (A : Around) (outer : List Env) (s : Shared) (H : Hp) (vs : List V) (Q : VK) (E : XK), Room k (A.deeper (envOfC x (defScope st) s.heap.objs.size f cdv)) → sp vs H Q E →
      ∃ t, PSs (cxOf (L2.CX P w) P w K mg base N x (defScope st) f cdv A outer s H E) (defBody st) t ∧ t { nx := fun _ H' => Q .non H', rt := Q } (start N vs) H) : Fn P w K mg base (L2.CX P w) (k + 1) x ps sp := by
  obtain ⟨f, fd, hm, F⟩ := hh
  exact ⟨f, fd, F.ok S len fun cdv A outer s H vs Q E hr h => hbody f cdv A outer s H vs Q E hr h, hm, F.kp, F.bindsN hb⟩
end
section
variable {X : Cx} {CX : CXT} {k : Nat} {x : Str} {ps : List Str} {sp : Sp} {E : XK} {e : Expr} {es : List Expr} {p pos : Pos} {t : TA}
theorem pe_fnX (F : Fn X.prog X.w X.K X.mg X.base CX k x ps sp) (hr : Room k X.A) (hg : Gl X x) (hx : Passes CX X E) (ha : PA X (e :: es) t) (hdb : (x == ("__debug__" : Str)) = false := by decide)
    (he : starEach (e :: es) X.env = (false, eval e X.env) :: starEach es X.env := by rfl) (hpl : (backTo pos (starEach es X.env)).any (·.1) = false := by rfl) : PE X (.Call (.Name x p) (e :: es) [] pos) (tCall sp [] E t) := by
  obtain ⟨f, fd, G, hm, kp, b⟩ := F
  exact pe_call G hr hg hm kp b .nil hx ha hdb he hpl
theorem pe_fn (F : Fn X.prog X.w X.K X.mg X.base CX0 k x ps sp) (hr : Room k X.A) (hg : Gl X x) (ha : PA X (e :: es) t) (hdb : (x == ("__debug__" : Str)) = false := by decide)
    (he : starEach (e :: es) X.env = (false, eval e X.env) :: starEach es X.env := by rfl) (hpl : (backTo pos (starEach es X.env)).any (·.1) = false := by rfl) : PE X (.Call (.Name x p) (e :: es) [] pos) (tCall sp [] E0 t) := pe_fnX F hr hg pass0 ha hdb he hpl
end
theorem ru64 {k : Nat} {A : Around} (r : Room k A) : A.units + 64 < cLine := by have := r.un; omega
theorem ru65 {k : Nat} {A : Around} (r : Room k A) : A.units + 65 < cLine := by have := r.un; omega
/-! ### new objects -/
/-- a new object: what stood stands -/
theorem new_o {H : Hp} {o : HO} {Q : Addr → Hp → Prop} (h : ∀ p H', H p = none → Same H H' → H' p = some o → Q p H') : ∀ p, H p = none → Q p (upd H p o) :=
  fun p hp => h p _ hp (fun b u e => by rw [upd_ne (ne_of_none e hp)]; exact e) upd_same
theorem same_new {H : Hp} {p : Addr} (o : HO) (h : H p = none) : Same H (upd H p o) := fun b u e => by
  rw [upd_ne (ne_of_none e h)]
  exact e
/-- all but what stands at p -/
def Sb (p : Addr) (H H' : Hp) : Prop := ∀ b o, b ≠ p → H b = some o → H' b = some o
theorem Sb.refl {p : Addr} {H : Hp} : Sb p H H := fun _ _ _ h => h
theorem Sb.trans {p : Addr} {H H1 H2 : Hp} (a : Sb p H H1) (b : Sb p H1 H2) : Sb p H H2 := fun c o n h => b c o n (a c o n h)
theorem Sb.of {p : Addr} {H H' : Hp} (s : Same H H') : Sb p H H' := fun b o _ h => s b o h
theorem Sb.upd {p : Addr} {H : Hp} {o : HO} : Sb p H (upd H p o) := fun b u n h => by
  rw [upd_ne n]
  exact h
/-- tuples stay -/
def Ke (H H' : Hp) : Prop := ∀ b xs, H b = some (.tup xs) → H' b = some (.tup xs)
theorem Ke.refl {H : Hp} : Ke H H := fun _ _ h => h
theorem Ke.trans {H H1 H2 : Hp} (a : Ke H H1) (b : Ke H1 H2) : Ke H H2 := fun c xs h => b c xs (a c xs h)
theorem Ke.of {H H' : Hp} (s : Same H H') : Ke H H' := fun b xs h => s b _ h
theorem Sb.ke {p : Addr} {H H' : Hp} {xs : List V} (s : Sb p H H') (h : H p = some (.lst xs)) : Ke H H' := fun b ys e => s b _ (fun q => by
  rw [q, h] at e
  cases e) e
/-! ### lists told item by item -/
section
variable {α β : Type} {R R' : α → β → Prop}
theorem pr_append {xs xs' : List α} {ys ys' : List β} (h : Paired R xs ys) (h' : Paired R xs' ys') : Paired R (xs ++ xs') (ys ++ ys') := by
  induction h with
  | nil => exact h'
  | cons a _ ih => exact .cons a ih
theorem pr_one {x : α} {y : β} (h : R x y) : Paired R [x] [y] := .cons h .nil
theorem pr_get {xs : List α} {ys : List β} (h : Paired R xs ys) : ∀ {i : Nat} {x : α}, xs[i]? = some x → ∃ y, ys[i]? = some y ∧ R x y := by
  induction h with
  | nil => intro i x e; simp at e
  | cons a _ ih =>
    intro i x e
    cases i with
    | zero =>
      have e' := Option.some.inj e
      rw [← e']
      exact ⟨_, rfl, a⟩
    | succ i => exact ih e
theorem pr_get' {xs : List α} {ys : List β} (h : Paired R xs ys) : ∀ {i : Nat} {y : β}, ys[i]? = some y → ∃ x, xs[i]? = some x ∧ R x y := by
  induction h with
  | nil => intro i x e; simp at e
  | cons a _ ih =>
    intro i x e
    cases i with
    | zero =>
      have e' := Option.some.inj e
      rw [← e']
      exact ⟨_, rfl, a⟩
    | succ i => exact ih e
theorem pr_len {xs : List α} {ys : List β} (h : Paired R xs ys) : xs.length = ys.length := Paired.length h
theorem pr_mono {xs : List α} {ys : List β} (h : Paired R xs ys) (f : ∀ a b, R a b → R' a b) : Paired R' xs ys := Paired.mapP h f
theorem pr_perm {xs xs' : List α} (p : xs'.Perm xs) : ∀ {ys : List β}, Paired R xs ys → ∃ ys', Paired R xs' ys' ∧ ys'.Perm ys := by
  induction p with
  | nil => intro ys h; exact ⟨ys, h, .refl _⟩
  | cons x _ ih =>
    intro ys h
    cases h with
    | cons a t =>
      obtain ⟨ys', h1, h2⟩ := ih t
      exact ⟨_, .cons a h1, .cons _ h2⟩
  | swap x y l =>
    intro ys h
    cases h with
    | cons a t =>
      cases t with
      | cons b t => exact ⟨_, .cons b (.cons a t), .swap _ _ _⟩
  | trans _ _ ih1 ih2 =>
    intro ys h
    obtain ⟨ys2, h1, h2⟩ := ih2 h
    obtain ⟨ys3, h3, h4⟩ := ih1 h1
    exact ⟨ys3, h3, h4.trans h2⟩
theorem pr_mem {xs : List α} {ys : List β} (h : Paired R xs ys) {x : α} (hx : x ∈ xs) : ∃ y, y ∈ ys ∧ R x y := by
  obtain ⟨i, hi, e⟩ := List.mem_iff_getElem.mp hx
  obtain ⟨y, h1, h2⟩ := pr_get h (i := i) (x := x) (by rw [List.getElem?_eq_getElem hi, e])
  exact ⟨y, List.mem_of_getElem? h1, h2⟩
theorem pr_mem' {xs : List α} {ys : List β} (h : Paired R xs ys) {y : β} (hy : y ∈ ys) : ∃ x, x ∈ xs ∧ R x y := by
  obtain ⟨i, hi, e⟩ := List.mem_iff_getElem.mp hy
  obtain ⟨x, h1, h2⟩ := pr_get' h (i := i) (y := y) (by rw [List.getElem?_eq_getElem hi, e])
  exact ⟨x, List.mem_of_getElem? h1, h2⟩
theorem pr_rev {xs : List α} {ys : List β} (h : Paired R xs ys) : Paired R xs.reverse ys.reverse := by
  induction h with
  | nil => exact .nil
  | cons a _ ih =>
    rw [List.reverse_cons, List.reverse_cons]
    exact pr_append ih (pr_one a)
theorem pr_set {xs : List α} {ys : List β} (h : Paired R xs ys) {x : α} {y : β} (r : R x y) : ∀ i, Paired R (xs.set i x) (ys.set i y) := by
  induction h with
  | nil => intro i; exact .nil
  | cons a t ih =>
    intro i
    cases i with
    | zero => exact .cons r t
    | succ i => exact .cons a (ih i)
theorem pr_take {xs : List α} {ys : List β} (h : Paired R xs ys) : ∀ n, Paired R (xs.take n) (ys.take n) := by
  induction h with
  | nil => intro n; simp; exact .nil
  | cons a t ih =>
    intro n
    cases n with
    | zero => exact .nil
    | succ n => exact .cons a (ih n)
theorem pr_drop {xs : List α} {ys : List β} (h : Paired R xs ys) : ∀ n, Paired R (xs.drop n) (ys.drop n) := by
  induction h with
  | nil => intro n; simp; exact .nil
  | cons a t ih =>
    intro n
    cases n with
    | zero => exact .cons a t
    | succ n => exact ih n
end
theorem pr_sorted {R : V → Step → Prop} {xs : List V} {ys : List Step} (h : Paired R xs ys) (hp : xs.Pairwise fun x y => ∀ a b, R x a → R y b → a.1 ≤ b.1) : ys.Pairwise fun a b => a.1 ≤ b.1 := by
  rw [List.pairwise_iff_getElem] at hp ⊢
  intro i j hi hj hij
  obtain ⟨x, hx, rx⟩ := pr_get' h (i := i) (List.getElem?_eq_getElem hi)
  obtain ⟨y, hy, ry⟩ := pr_get' h (i := j) (List.getElem?_eq_getElem hj)
  obtain ⟨h1, e1⟩ := List.getElem?_eq_some_iff.mp hx
  obtain ⟨h2, e2⟩ := List.getElem?_eq_some_iff.mp hy
  have := hp i j h1 h2 hij
  rw [e1, e2] at this
  exact this _ _ rx ry
/-! ### data -/
/-- a tuple of three: a meeting, a step -/
def T3 (H : Hp) (x : V) (s : Step) : Prop := ∃ a, x = .ref a ∧ H a = some (.tup [.int s.1, .int s.2.1, .int s.2.2])
theorem T3.ke {H H' : Hp} {x : V} {s : Step} (h : T3 H x s) (k : Ke H H') : T3 H' x s := by
  obtain ⟨a, e, h⟩ := h
  exact ⟨a, e, k _ _ h⟩
abbrev T3s (H : Hp) (xs : List V) (ss : List Step) : Prop := Paired (T3 H) xs ss
theorem T3s.ke {H H' : Hp} {xs : List V} {ss : List Step} (h : T3s H xs ss) (k : Ke H H') : T3s H' xs ss := pr_mono h fun _ _ q => q.ke k
theorem T3.inj {H : Hp} {x : V} {s r : Step} (h : T3 H x s) (h' : T3 H x r) : s = r := by
  obtain ⟨a, rfl, e⟩ := h
  obtain ⟨b, eb, e'⟩ := h'
  cases eb
  rw [e] at e'
  injection e' with e'
  injection e' with e'
  injection e' with e1 e2
  injection e2 with e2 e3
  injection e3 with e3 _
  injection e1 with e1
  injection e2 with e2
  injection e3 with e3
  obtain ⟨t, u, v⟩ := s
  obtain ⟨t', u', v'⟩ := r
  simp only at e1 e2 e3
  have e2' : u = u' := by omega
  have e3' : v = v' := by omega
  rw [e1, e2', e3']
/-- a tuple of meetings, of steps -/
def TupOfs (H : Hp) (x : V) (ss : List Step) : Prop := ∃ b xs, x = .ref b ∧ H b = some (.tup xs) ∧ T3s H xs ss
theorem TupOfs.ke {H H' : Hp} {x : V} {ss : List Step} (h : TupOfs H x ss) (k : Ke H H') : TupOfs H' x ss := by
  obtain ⟨b, xs, e, h1, h2⟩ := h
  exact ⟨b, xs, e, k _ _ h1, h2.ke k⟩
def WebAt (H : Hp) (x : V) (W : Web) : Prop := ∃ a y, x = .ref a ∧ H a = some (.tup [.int W.many, y]) ∧ TupOfs H y W.meets
theorem WebAt.ke {H H' : Hp} {x : V} {W : Web} (h : WebAt H x W) (k : Ke H H') : WebAt H' x W := by
  obtain ⟨b, xs, e, h1, h2⟩ := h
  exact ⟨b, xs, e, k _ _ h1, h2.ke k⟩
/-- a list of numbers and None -/
def oV : Option Int → V
  | none => .non
  | some i => .int i
abbrev OL (H : Hp) (p : Addr) (c : List (Option Int)) : Prop := H p = some (.lst (c.map oV))
/-- a list of steps and None -/
def O3 (H : Hp) (x : V) : Option Step → Prop
  | none => x = .non
  | some s => T3 H x s
theorem O3.ke {H H' : Hp} {x : V} {o : Option Step} (h : O3 H x o) (k : Ke H H') : O3 H' x o := by
  cases o with
  | none => exact h
  | some s => exact T3.ke h k
abbrev O3s (H : Hp) (xs : List V) (ss : List (Option Step)) : Prop := Paired (O3 H) xs ss
theorem O3s.ke {H H' : Hp} {xs : List V} {ss : List (Option Step)} (h : O3s H xs ss) (k : Ke H H') : O3s H' xs ss := pr_mono h fun _ _ q => q.ke k
theorem z100 {n : Nat} (h : n ≤ 100000) : n ≤ sizeLine := Nat.le_trans h (by decide)
theorem z100' {n : Nat} (h : n < 100000) : n < sizeLine := Nat.lt_of_lt_of_le h (by decide)
/-! ### the same as data -/
def tri (s : Step) : PyData := .tuple [.int s.1, .int s.2.1, .int s.2.2]
theorem tri_lay (s : Step) : (tri s).canLay0 = true := by simp [tri, PyData.canLay0, PyData.canLayAll0]
theorem tri_depth (s : Step) : (tri s).depth = 1 := by simp [tri, PyData.depth, PyData.depthAll]
theorem tris_lay : ∀ ss : List Step, PyData.canLayAll0 (ss.map tri) = true
  | [] => by simp [PyData.canLayAll0]
  | s :: ss => by simp [PyData.canLayAll0, tri_lay s, tris_lay ss]
theorem tris_depth : ∀ ss : List Step, PyData.depthAll (ss.map tri) ≤ 1
  | [] => by simp [PyData.depthAll]
  | s :: ss => by
    have h1 := tris_depth ss
    have h2 := tri_depth s
    simp only [List.map_cons, PyData.depthAll]
    omega
theorem shaped_of {d : PyData} (h1 : d.canLay0 = true) (h2 : d.depth ≤ 64) : SeqAt.shaped d = true := by
  show (d.canLay0 && decide (d.depth ≤ 64)) = true
  rw [h1, decide_eq_true h2]
  rfl
theorem tri_shaped (s : Step) : SeqAt.shaped (tri s) = true := shaped_of (tri_lay s) (by rw [tri_depth]; omega)
theorem tris_shapedT (ss : List Step) : SeqAt.shaped (.tuple (ss.map tri)) = true := shaped_of (by simp only [PyData.canLay0]; exact tris_lay ss) (by
  have := tris_depth ss
  simp only [PyData.depth]
  omega)
theorem tris_shapedL (ss : List Step) : SeqAt.shaped (.list (ss.map tri)) = true := shaped_of (by simp only [PyData.canLay0]; exact tris_lay ss) (by
  have := tris_depth ss
  simp only [PyData.depth]
  omega)
theorem tri_eqv (s r : Step) : PyData.eqv (tri s) (tri r) = decide (s = r) := by
  obtain ⟨a, b, c⟩ := s
  obtain ⟨a', b', c'⟩ := r
  have e : PyData.eqv (tri (a, b, c)) (tri (a', b', c')) = ((a == a') && ((((b : Int) == (b' : Int)) && (((c : Int) == (c' : Int)) && true)))) := by simp only [tri, PyData.eqv, PyData.eqvAll]
  rw [e, Bool.eq_iff_iff]
  simp only [Bool.and_eq_true, beq_iff_eq, decide_eq_true_eq, Prod.mk.injEq, and_true]
  constructor
  · intro h; exact ⟨h.1, by omega, by omega⟩
  · intro h; exact ⟨h.1, by omega, by omega⟩
theorem any_tri (ss : List Step) (s : Step) : ((ss.map tri).any fun z => PyData.eqv z (tri s)) = decide (s ∈ ss) := by
  induction ss with
  | nil => simp
  | cons a r ih =>
    rw [List.map_cons, List.any_cons, ih, tri_eqv, Bool.eq_iff_iff]
    simp only [Bool.or_eq_true, decide_eq_true_eq, List.mem_cons]
    constructor
    · rintro (h | h)
      · exact .inl h.symm
      · exact .inr h
    · rintro (h | h)
      · exact .inl h.symm
      · exact .inr h
theorem T3.dp {K : PySem.W.Frag} {H : Hp} {x : V} {s : Step} (h : T3 H x s) : Dp K H x (tri s) := by
  obtain ⟨a, rfl, h⟩ := h
  exact .tup (SqT.of h) (.cons (.int _) (.cons (.int _) (.cons (.int _) .nil)))
theorem T3s.dp {K : PySem.W.Frag} {H : Hp} {xs : List V} {ss : List Step} (h : T3s H xs ss) : DpAll K H xs (ss.map tri) := by
  induction h with
  | nil => exact .nil
  | cons a _ ih => exact .cons a.dp ih
theorem TupOfs.dp {K : PySem.W.Frag} {H : Hp} {x : V} {ss : List Step} (h : TupOfs H x ss) : Dp K H x (.tuple (ss.map tri)) := by
  obtain ⟨b, xs, rfl, h1, h2⟩ := h
  exact .tup (SqT.of h1) h2.dp
/-! lists of numbers and None -/
def oD : Option Int → PyData
  | none => .none
  | some i => .int i
theorem oD_lay (o : Option Int) : (oD o).canLay0 = true := by cases o <;> simp [oD, PyData.canLay0]
theorem oD_depth (o : Option Int) : (oD o).depth = 0 := by cases o <;> simp [oD, PyData.depth]
theorem oDs_lay : ∀ c : List (Option Int), PyData.canLayAll0 (c.map oD) = true
  | [] => by simp [PyData.canLayAll0]
  | s :: ss => by simp [PyData.canLayAll0, oD_lay s, oDs_lay ss]
theorem oDs_depth : ∀ c : List (Option Int), PyData.depthAll (c.map oD) = 0
  | [] => by simp [PyData.depthAll]
  | s :: ss => by simp [PyData.depthAll, oD_depth s, oDs_depth ss]
theorem oDs_shaped (c : List (Option Int)) : SeqAt.shaped (.list (c.map oD)) = true := shaped_of (by simp only [PyData.canLay0]; exact oDs_lay c) (by
  have := oDs_depth c
  simp only [PyData.depth]
  omega)
theorem oD_eqv (a b : Option Int) : PyData.eqv (oD a) (oD b) = decide (a = b) := by
  cases a with
  | none => cases b <;> simp [oD, PyData.eqv]
  | some x =>
    cases b with
    | none => simp [oD, PyData.eqv]
    | some y =>
      simp only [oD, PyData.eqv]
      rw [Bool.eq_iff_iff]
      simp
theorem oDs_eqv : ∀ (a b : List (Option Int)), PyData.eqv (.list (a.map oD)) (.list (b.map oD)) = decide (a = b) := by
  intro a b
  simp only [PyData.eqv]
  induction a generalizing b with
  | nil => cases b <;> simp [PyData.eqvAll]
  | cons x r ih =>
    cases b with
    | nil => simp [PyData.eqvAll]
    | cons y t =>
      rw [List.map_cons, List.map_cons]
      simp only [PyData.eqvAll]
      rw [oD_eqv, ih, Bool.eq_iff_iff]
      simp
theorem OL.dp {K : PySem.W.Frag} {H : Hp} {p : Addr} {c : List (Option Int)} (h : OL H p c) : Dp K H (.ref p) (.list (c.map oD)) := by
  refine .lst (SqL.of h) ?_
  clear h
  induction c with
  | nil => exact .nil
  | cons a r ih =>
    refine .cons ?_ ih
    cases a with
    | none => exact .non
    | some i => exact .int i
theorem oGet {c : List (Option Int)} {i : Nat} {o : Option Int} (h : c[i]? = some o) : atI (c.map oV) (i : Int) = some (oV o) := atI_nat (by rw [List.getElem?_map, h]; rfl)
end Wm
end
section
set_option Elab.async false
set_option linter.all false
set_option maxRecDepth 100000
set_option maxHeartbeats 4000000
namespace Wm
open PySem PySem.Spec PyProof.Rows L2
section
variable {P : Program} {w : World} {K : PySem.W.Frag} {mg : Str → Option Value} {base : Heap}
/-! ### risen_meet -/
def sp_risen_meet : Sp := fun vs H Q _ => ∃ (t : Int) (a b : Nat), vs = [.int t, .int a, .int b] ∧
  ∀ p H', H p = none → Same H H' → H' p = some (.tup [.int t, .int (min a b : Nat), .int (max a b : Nat)]) → Q (.ref p) H'
theorem min_if {a b : Nat} : (if (b : Int) < (a : Int) then (b : Int) else (a : Int)) = ((min a b : Nat) : Int) := by
  split <;> omega
theorem max_if {a b : Nat} : (if (b : Int) > (a : Int) then (b : Int) else (a : Int)) = ((max a b : Nat) : Int) := by
  split <;> omega
theorem sc_risen_meet : FnScope ["moment", "one", "other"] ["moment", "one", "other"] (defScope s_risen_meet) := ⟨rfl, rfl, rfl, by decide +kernel, rfl, by decide +kernel, by decide +kernel⟩
theorem ok_risen_meet (hh : Here K mg "risen_meet" s_risen_meet) (T : Tp K mg)  : Fn P w K mg base CX0 1 "risen_meet" ["moment", "one", "other"] sp_risen_meet := by
  refine fn_mk hh sc_risen_meet (fun vs H Q E h => ?_) (fun _ _ _ _ _ _ us hl => match us, hl with | [_, _, _], _ => rfl) (fun f cdv A outer s H vs Q E hr h => ?_)
  · obtain ⟨t, a, b, rfl, _⟩ := h
    rfl
  obtain ⟨t, a, b, rfl, q⟩ := h
  refine ⟨_, (pss_one (ps_ret (pe_tup (pa_cons (pv 0) (pa_cons (pe_callB (call_min2 rfl) (by rfl) T.min (by decide +kernel) (pa_cons (pv 1) (pa_cons (pv 2) pa_nil))) (pa_cons (pe_callB (call_max2 rfl) (by rfl) T.max (by decide +kernel) (pa_cons (pv 1) (pa_cons (pv 2) pa_nil))) pa_nil)))))), ?_⟩
  refine ⟨_, rfl, _, rfl, _, rfl, _, _, rfl, ?_⟩
  refine ⟨_, rfl, _, rfl, _, _, rfl, ?_⟩
  refine ⟨by show 3 ≤ sizeLine; decide, new_o fun p H' np s e => ?_⟩
  rw [min_if, max_if] at e
  exact q p H' np s e
/-! ### goes_on -/
def sp_goes_on : Sp := fun vs H Q _ => ∃ (r : Int) (x y : V) (s b : Step), vs = [.int r, x, y] ∧ T3 H x s ∧ T3 H y b ∧
  Q (.bl (decide (s.2.2 = b.2.1 ∧ s.1 + r ≤ b.1))) H
theorem decN {a b : Nat} (h : decide (V.int (a : Int) = V.int (b : Int)) = true) : a = b := by
  have := of_decide_eq_true h
  injection this with this
  omega
theorem decN' {a b : Nat} (h : ¬ decide (V.int (a : Int) = V.int (b : Int)) = true) : a ≠ b := fun e => h (decide_eq_true (by rw [e]))
theorem sc_goes_on : FnScope ["rest", "step", "behind"] ["rest", "step", "behind"] (defScope s_goes_on) := ⟨rfl, rfl, rfl, by decide +kernel, rfl, by decide +kernel, by decide +kernel⟩
theorem ok_goes_on (hh : Here K mg "goes_on" s_goes_on) (T : Tp K mg)  : Fn P w K mg base CX0 1 "goes_on" ["rest", "step", "behind"] sp_goes_on := by
  refine fn_mk hh sc_goes_on (fun vs H Q E h => ?_) (fun _ _ _ _ _ _ us hl => match us, hl with | [_, _, _], _ => rfl) (fun f cdv A outer s H vs Q E hr h => ?_)
  · obtain ⟨r, x, y, s, b, rfl, _⟩ := h
    rfl
  obtain ⟨r, x, y, s, b, rfl, ⟨a1, rfl, h1⟩, ⟨a2, rfl, h2⟩, q⟩ := h
  refine ⟨_, (pss_one (ps_ret (pe_and (pe_cmpR op_eq (pe_ix ix_tup (pv 1) pe_int (fun _ _ => rfl)) (pe_ix ix_tup (pv 2) pe_int (fun _ _ => rfl)) (nomark _)) (pe_one (pe_cmpR op_le (pe_op op_add (pe_ix ix_tup (pv 1) pe_int (fun _ _ => rfl)) (pv 0)) (pe_ix ix_tup (pv 2) pe_int (fun _ _ => rfl)) (nomark _)))))), ?_⟩
  refine ⟨_, rfl, a1, _, _, _, rfl, rfl, SqT.of h1, rfl, _, rfl, a2, _, _, _, rfl, rfl, SqT.of h2, rfl, rfl, _, rfl, ?_⟩
  refine ite2 (fun c => ?_) (fun c => ?_)
  · have e := decN c
    refine ⟨_, rfl, a1, _, _, _, rfl, rfl, SqT.of h1, rfl, _, rfl, _, _, rfl, rfl, _, rfl, a2, _, _, _, rfl, rfl, SqT.of h2, rfl, _, _, rfl, rfl, ?_⟩
    have ed : decide (s.2.2 = b.2.1 ∧ s.1 + r ≤ b.1) = decide (s.1 + r ≤ b.1) := by simp [e]
    rw [ed] at q
    exact q
  · have e := decN' c
    have ed : decide (s.2.2 = b.2.1 ∧ s.1 + r ≤ b.1) = false := by simp [e]
    rw [ed] at q
    exact q
/-! ### is_step, of a step -/
def sp_is_step : Sp := fun vs H Q _ => ∃ (x y : V) (W : Web) (s : Step), vs = [x, y] ∧ WebAt H x W ∧ T3 H y s ∧ s.2.1 ≠ s.2.2 ∧ (s.1, min s.2.1 s.2.2, max s.2.1 s.2.2) ∈ W.meets ∧
  ∀ H', Same H H' → Q (.bl true) H'
theorem sc_is_step : FnScope ["web", "step"] ["web", "step"] (defScope s_is_step) := ⟨rfl, rfl, rfl, by decide +kernel, rfl, by decide +kernel, by decide +kernel⟩
theorem ok_is_step (hh : Here K mg "is_step" s_is_step) (T : Tp K mg) (F_risen_meet : Fn P w K mg base CX0 1 "risen_meet" ["moment", "one", "other"] sp_risen_meet) : Fn P w K mg base CX0 2 "is_step" ["web", "step"] sp_is_step := by
  refine fn_mk hh sc_is_step (fun vs H Q E h => ?_) (fun _ _ _ _ _ _ us hl => match us, hl with | [_, _], _ => rfl) (fun f cdv A outer s H vs Q E hr h => ?_)
  · obtain ⟨x, y, W, s, rfl, _⟩ := h
    rfl
  obtain ⟨x, y, W, s, rfl, ⟨a1, y1, rfl, h1, hm⟩, ⟨a2, rfl, h2⟩, ne, hin, q⟩ := h
  refine ⟨_, (pss_one (ps_ret (pe_and (pe_cmpR op_ne (pe_ix ix_tup (pv 1) pe_int (fun _ _ => rfl)) (pe_ix ix_tup (pv 1) pe_int (fun _ _ => rfl)) (nomark _)) (pe_one (pe_cmpR (op_inT (ru65 hr)) (pe_fn F_risen_meet (hr.mono (by decide)) (by rfl) (pa_cons (pe_ix ix_tup (pv 1) pe_int (fun _ _ => rfl)) (pa_cons (pe_ix ix_tup (pv 1) pe_int (fun _ _ => rfl)) (pa_cons (pe_ix ix_tup (pv 1) pe_int (fun _ _ => rfl)) pa_nil)))) (pe_ix ix_tup (pv 0) pe_int (fun _ _ => rfl)) (by rfl)))))), ?_⟩
  refine ⟨_, rfl, a2, _, _, _, rfl, rfl, SqT.of h2, rfl, _, rfl, a2, _, _, _, rfl, rfl, SqT.of h2, rfl, rfl, _, rfl, ?_⟩
  refine ite2 (fun c => ?_) (fun c => ?_)
  · refine ⟨_, rfl, a2, _, _, _, rfl, rfl, SqT.of h2, rfl, _, rfl, a2, _, _, _, rfl, rfl, SqT.of h2, rfl, _, rfl, a2, _, _, _, rfl, rfl, SqT.of h2, rfl, ?_⟩
    refine ⟨s.1, s.2.1, s.2.2, rfl, fun p H' np sm e => ?_⟩
    have t3 : T3 H' (.ref p) (s.1, min s.2.1 s.2.2, max s.2.1 s.2.2) := ⟨p, rfl, e⟩
    refine ⟨_, rfl, a1, _, _, _, rfl, rfl, SqT.of (sm _ _ h1), rfl, _, _, t3.dp, (hm.ke (.of sm)).dp, tri_shaped _, tris_shapedT _, ?_⟩
    have ed : ((W.meets.map tri).any fun z => PyData.eqv z (tri (s.1, min s.2.1 s.2.2, max s.2.1 s.2.2))) = true := by
      rw [any_tri]
      exact decide_eq_true hin
    show Q (V.bl (if false = true then _ else ((W.meets.map tri).any fun z => PyData.eqv z (tri (s.1, min s.2.1 s.2.2, max s.2.1 s.2.2))))) H'
    rw [if_neg Bool.false_ne_true, ed]
    exact q H' sm
  · exfalso
    apply c
    have : V.int (s.2.1 : Int) ≠ V.int (s.2.2 : Int) := fun z => ne (by injection z with z; omega)
    rw [decide_eq_false this]
    rfl
/-! ### walk_ends -/
def sp_walk_ends : Sp := fun vs H Q _ => ∃ (x : V) (ss : List Step) (s r : Step), vs = [x] ∧ TupOfs H x ss ∧ ss[0]? = some s ∧ ss[ss.length - 1]? = some r ∧
  ∀ p H', H p = none → Same H H' → H' p = some (.tup [.int s.2.1, .int r.2.2, .int s.1, .int r.1]) → Q (.ref p) H'
theorem atI_m1 {α : Type} {xs : List α} {v : α} (h : xs[xs.length - 1]? = some v) : atI xs (-1) = some v := by
  have hl := (List.getElem?_eq_some_iff.mp h).1
  obtain ⟨l, z, rfl⟩ : ∃ l z, xs = l ++ [z] := ⟨xs.dropLast, xs.getLast (by intro q; rw [q] at hl; simp at hl), (List.dropLast_concat_getLast _).symm⟩
  have : (l ++ [z])[l.length]? = some v := by simpa using h
  rw [List.getElem?_append_right (Nat.le_refl _), Nat.sub_self] at this
  rw [← Option.some.inj (show some z = some v from this)]
  exact atI_last l z
theorem sc_walk_ends : FnScope ["walk"] ["walk"] (defScope s_walk_ends) := ⟨rfl, rfl, rfl, by decide +kernel, rfl, by decide +kernel, by decide +kernel⟩
theorem ok_walk_ends (hh : Here K mg "walk_ends" s_walk_ends) (T : Tp K mg)  : Fn P w K mg base CX0 1 "walk_ends" ["walk"] sp_walk_ends := by
  refine fn_mk hh sc_walk_ends (fun vs H Q E h => ?_) (fun _ _ _ _ _ _ us hl => match us, hl with | [_], _ => rfl) (fun f cdv A outer s H vs Q E hr h => ?_)
  · obtain ⟨x, ss, s, r, rfl, _⟩ := h
    rfl
  obtain ⟨x, ss, s, r, rfl, ⟨b, xs, rfl, hb, h3⟩, hs, hr', q⟩ := h
  obtain ⟨x0, hx0, a0, rfl, e0⟩ := pr_get' h3 hs
  obtain ⟨x1, hx1, a1, rfl, e1⟩ := pr_get' h3 hr'
  have g0 : atI xs (0 : Int) = some (V.ref a0) := atI_nat (j := 0) hx0
  have g1 : atI xs (-1 : Int) = some (V.ref a1) := atI_m1 (by rw [pr_len h3]; exact hx1)
  refine ⟨_, (pss_one (ps_ret (pe_tup (pa_cons (pe_ix ix_tup (pe_ix ix_tup (pv 0) pe_int (fun _ _ => rfl)) pe_int (fun _ _ => rfl)) (pa_cons (pe_ix ix_tup (pe_ix ix_tup (pv 0) (pe_un un_neg pe_int) (fun _ _ => rfl)) pe_int (fun _ _ => rfl)) (pa_cons (pe_ix ix_tup (pe_ix ix_tup (pv 0) pe_int (fun _ _ => rfl)) pe_int (fun _ _ => rfl)) (pa_cons (pe_ix ix_tup (pe_ix ix_tup (pv 0) (pe_un un_neg pe_int) (fun _ _ => rfl)) pe_int (fun _ _ => rfl)) pa_nil))))))), ?_⟩
  refine ⟨_, rfl, b, _, _, _, rfl, rfl, SqT.of hb, g0, a0, _, _, _, rfl, rfl, SqT.of e0, rfl, _, rfl, _, rfl, b, _, _, _, rfl, rfl, SqT.of hb, g1, a1, _, _, _, rfl, rfl, SqT.of e1, rfl, ?_⟩
  refine ⟨_, rfl, b, _, _, _, rfl, rfl, SqT.of hb, g0, a0, _, _, _, rfl, rfl, SqT.of e0, rfl, _, rfl, _, rfl, b, _, _, _, rfl, rfl, SqT.of hb, g1, a1, _, _, _, rfl, rfl, SqT.of e1, rfl, ?_⟩
  exact ⟨by show 4 ≤ sizeLine; decide, new_o q⟩
/-! ### can_go, is_sooner -/
def sp_can_go : Sp := fun vs H Q _ => ∃ (p : Addr) (c : List (Option Int)) (rest first : Int) (start : Nat) (x : V) (s : Step), vs = [.ref p, .int rest, .int start, .int first, x] ∧ OL H p c ∧ T3 H x s ∧ s.2.1 < c.length ∧
  Q (.bl (canGo c rest start first s)) H
theorem ge_dec {a b : Int} : decide (a ≥ b) = decide (b ≤ a) := rfl
theorem sc_can_go : FnScope ["clocks", "rest", "start", "first", "step"] ["clocks", "rest", "start", "first", "step"] (defScope s_can_go) := ⟨rfl, rfl, rfl, by decide +kernel, rfl, by decide +kernel, by decide +kernel⟩
theorem ok_can_go (hh : Here K mg "can_go" s_can_go) (T : Tp K mg)  : Fn P w K mg base CX0 1 "can_go" ["clocks", "rest", "start", "first", "step"] sp_can_go := by
  refine fn_mk hh sc_can_go (fun vs H Q E h => ?_) (fun _ _ _ _ _ _ us hl => match us, hl with | [_, _, _, _, _], _ => rfl) (fun f cdv A outer s H vs Q E hr h => ?_)
  · obtain ⟨p, c, rest, first, start, x, s, rfl, _⟩ := h
    rfl
  obtain ⟨p, c, rest, first, start, x, s, rfl, hc, ⟨a, rfl, ha⟩, hl, q⟩ := h
  unfold canGo at q
  have hg : c[s.2.1]? = some (c.getD s.2.1 none) := by
    rw [List.getD_eq_getElem?_getD, List.getElem?_eq_getElem hl]
    rfl
  have g := oGet hg
  refine ⟨_, (pss_cons (ps_if (pt_cmpR op_eq (pe_ix ix_tup (pv 4) pe_int (fun _ _ => rfl)) (pv 2) (nomark _))
        (pss_one (ps_ret (pe_cmpR op_ge (pe_ix ix_tup (pv 4) pe_int (fun _ _ => rfl)) (pv 3) (nomark _))))
        pss_nil)
      (pss_one (ps_ret (pe_and (pe_cmpR op_notN (pe_ix ix_list (pv 0) (pe_ix ix_tup (pv 4) pe_int (fun _ _ => rfl)) (fun _ _ => rfl)) pe_non (nomark _)) (pe_one (pe_cmpR op_le (pe_op op_add (pe_ix ix_list (pv 0) (pe_ix ix_tup (pv 4) pe_int (fun _ _ => rfl)) (fun _ _ => rfl)) (pv 1)) (pe_ix ix_tup (pv 4) pe_int (fun _ _ => rfl)) (nomark _))))))), ?_⟩
  refine ⟨_, rfl, a, _, _, _, rfl, rfl, SqT.of ha, rfl, _, rfl, rfl, _, rfl, ?_⟩
  refine ite2 (fun e => ?_) (fun e => ?_)
  · rw [if_pos (decN e)] at q
    exact ⟨_, rfl, a, _, _, _, rfl, rfl, SqT.of ha, rfl, _, rfl, _, _, rfl, rfl, q⟩
  · rw [if_neg (decN' e)] at q
    refine ⟨_, rfl, _, rfl, a, _, _, _, rfl, rfl, SqT.of ha, rfl, p, _, _, _, rfl, rfl, SqL.of hc, g, rfl, _, rfl, ?_⟩
    cases hq : c.getD s.2.1 none with
    | none =>
      rw [hq] at q
      exact iteF q
    | some t =>
      rw [hq] at q g
      refine iteT ?_
      exact ⟨_, rfl, _, rfl, a, _, _, _, rfl, rfl, SqT.of ha, rfl, p, _, _, _, rfl, rfl, SqL.of hc, g, _, rfl, _, _, rfl, rfl, _, rfl, a, _, _, _, rfl, rfl, SqT.of ha, rfl, _, _, rfl, rfl, q⟩
def sp_is_sooner : Sp := fun vs H Q _ => ∃ (p : Addr) (c : List (Option Int)) (start : Nat) (x : V) (s : Step), vs = [.ref p, .int start, x] ∧ OL H p c ∧ T3 H x s ∧ s.2.2 < c.length ∧
  Q (.bl (sooner c start s)) H
theorem sc_is_sooner : FnScope ["clocks", "start", "step"] ["clocks", "start", "step"] (defScope s_is_sooner) := ⟨rfl, rfl, rfl, by decide +kernel, rfl, by decide +kernel, by decide +kernel⟩
theorem ok_is_sooner (hh : Here K mg "is_sooner" s_is_sooner) (T : Tp K mg)  : Fn P w K mg base CX0 1 "is_sooner" ["clocks", "start", "step"] sp_is_sooner := by
  refine fn_mk hh sc_is_sooner (fun vs H Q E h => ?_) (fun _ _ _ _ _ _ us hl => match us, hl with | [_, _, _], _ => rfl) (fun f cdv A outer s H vs Q E hr h => ?_)
  · obtain ⟨p, c, start, x, s, rfl, _⟩ := h
    rfl
  obtain ⟨p, c, start, x, s, rfl, hc, ⟨a, rfl, ha⟩, hl, q⟩ := h
  unfold sooner at q
  have hg : c[s.2.2]? = some (c.getD s.2.2 none) := by
    rw [List.getD_eq_getElem?_getD, List.getElem?_eq_getElem hl]
    rfl
  have g := oGet hg
  refine ⟨_, (pss_cons (ps_if (pt_cmpR op_eq (pe_ix ix_tup (pv 2) pe_int (fun _ _ => rfl)) (pv 1) (nomark _))
        (pss_one (ps_ret pe_bl))
        pss_nil)
      (pss_one (ps_ret (pe_or (pe_cmpR op_isN (pe_ix ix_list (pv 0) (pe_ix ix_tup (pv 2) pe_int (fun _ _ => rfl)) (fun _ _ => rfl)) pe_non (nomark _)) (pe_one (pe_cmpR op_lt (pe_ix ix_tup (pv 2) pe_int (fun _ _ => rfl)) (pe_ix ix_list (pv 0) (pe_ix ix_tup (pv 2) pe_int (fun _ _ => rfl)) (fun _ _ => rfl)) (nomark _))))))), ?_⟩
  refine ⟨_, rfl, a, _, _, _, rfl, rfl, SqT.of ha, rfl, _, rfl, rfl, _, rfl, ?_⟩
  refine ite2 (fun e => ?_) (fun e => ?_)
  · rw [if_pos (decN e)] at q
    exact q
  · rw [if_neg (decN' e)] at q
    refine ⟨_, rfl, _, rfl, a, _, _, _, rfl, rfl, SqT.of ha, rfl, p, _, _, _, rfl, rfl, SqL.of hc, g, rfl, _, rfl, ?_⟩
    cases hq : c.getD s.2.2 none with
    | none =>
      rw [hq] at q
      exact iteT q
    | some t =>
      rw [hq] at q g
      refine iteF ?_
      exact ⟨_, rfl, a, _, _, _, rfl, rfl, SqT.of ha, rfl, _, rfl, _, rfl, a, _, _, _, rfl, rfl, SqT.of ha, rfl, p, _, _, _, rfl, rfl, SqL.of hc, g, _, _, rfl, rfl, q⟩
/-! ### turned_moment, has_slack -/
def sp_turned_moment : Sp := fun vs H Q _ => ∃ o : Option Int, vs = [oV o] ∧ Q (oV (neg o)) H
theorem sc_turned_moment : FnScope ["moment"] ["moment"] (defScope s_turned_moment) := ⟨rfl, rfl, rfl, by decide +kernel, rfl, by decide +kernel, by decide +kernel⟩
theorem ok_turned_moment (hh : Here K mg "turned_moment" s_turned_moment) (T : Tp K mg)  : Fn P w K mg base CX0 1 "turned_moment" ["moment"] sp_turned_moment := by
  refine fn_mk hh sc_turned_moment (fun vs H Q E h => ?_) (fun _ _ _ _ _ _ us hl => match us, hl with | [_], _ => rfl) (fun f cdv A outer s H vs Q E hr h => ?_)
  · obtain ⟨o, rfl, _⟩ := h
    rfl
  obtain ⟨o, rfl, q⟩ := h
  refine ⟨_, (pss_cons (ps_if (pt_cmpR op_isN (pv 0) pe_non (nomark _))
        (pss_one (ps_ret pe_non))
        pss_nil)
      (pss_one (ps_ret (pe_op op_sub pe_int (pv 0))))), ?_⟩
  cases o with
  | none => exact ⟨_, rfl, rfl, _, rfl, iteT q⟩
  | some t => exact ⟨_, rfl, rfl, _, rfl, iteF ⟨_, rfl, _, _, rfl, rfl, q⟩⟩
def slack (rest : Int) (s l : Option Int) : Bool := match s, l with
  | some a, some b => decide (rest ≤ b - a)
  | _, _ => false
def sp_has_slack : Sp := fun vs H Q _ => ∃ (rest : Int) (s l : Option Int), vs = [.int rest, oV s, oV l] ∧ Q (.bl (slack rest s l)) H
theorem sc_has_slack : FnScope ["rest", "soonest", "latest"] ["rest", "soonest", "latest"] (defScope s_has_slack) := ⟨rfl, rfl, rfl, by decide +kernel, rfl, by decide +kernel, by decide +kernel⟩
theorem ok_has_slack (hh : Here K mg "has_slack" s_has_slack) (T : Tp K mg)  : Fn P w K mg base CX0 1 "has_slack" ["rest", "soonest", "latest"] sp_has_slack := by
  refine fn_mk hh sc_has_slack (fun vs H Q E h => ?_) (fun _ _ _ _ _ _ us hl => match us, hl with | [_, _, _], _ => rfl) (fun f cdv A outer s H vs Q E hr h => ?_)
  · obtain ⟨rest, s, l, rfl, _⟩ := h
    rfl
  obtain ⟨rest, s, l, rfl, q⟩ := h
  refine ⟨_, (pss_one (ps_ret (pe_and (pe_cmpR op_notN (pv 1) pe_non (nomark _)) (pe_and (pe_cmpR op_notN (pv 2) pe_non (nomark _)) (pe_one (pe_cmpR op_ge (pe_op op_sub (pv 2) (pv 1)) (pv 0) (nomark _))))))), ?_⟩
  cases s with
  | none => exact ⟨_, rfl, rfl, _, rfl, iteF q⟩
  | some a =>
    cases l with
    | none => exact ⟨_, rfl, rfl, _, rfl, iteT ⟨_, rfl, rfl, _, rfl, iteF q⟩⟩
    | some b => exact ⟨_, rfl, rfl, _, rfl, iteT ⟨_, rfl, rfl, _, rfl, iteT ⟨_, rfl, _, rfl, _, _, rfl, rfl, _, rfl, _, _, rfl, rfl, q⟩⟩⟩
end
end Wm
end
section
set_option Elab.async false
set_option linter.all false
set_option maxRecDepth 100000
set_option maxHeartbeats 4000000
/-! Comprehensions over data, once. -/
namespace Wm
open PySem PySem.Spec PyProof.Rows L2
theorem Ke.lst {H : Hp} {p : Addr} {xs ys : List V} (h : H p = some (.lst xs)) : Ke H (upd H p (.lst ys)) := fun b zs e => by
  have : b ≠ p := fun q => by
    rw [q, h] at e
    cases e
  rw [upd_ne this]
  exact e
theorem same_past {H H' : Hp} {D : Addr} {o : HO} (s : Same H H') (h : H D = none) : Same H (upd H' D o) := fun b u e => by
  rw [upd_ne (ne_of_none e h)]
  exact s b u e
section
variable {α β : Type} {R0 : Hp → V → α → Prop} {R : Hp → V → β → Prop} {K : PySem.W.Frag} {a : Addr} {xs : List V} {ms : List α} {g : TG} {tt : TT} {te : TE} {vs : List Nat} {σ : L2.St} {H : Hp} {D : Addr} {Qd : Hp → Prop}
/-- what is so far in the new list -/
def Lc (R : Hp → V → β → Prop) (ms : List α) (keep : α → Bool) (val : α → β) (H : Hp) (D : Addr) (i : Nat) (H' : Hp) : Prop :=
  Same H H' ∧ ∃ ys, H' D = some (.lst ys) ∧ Paired (R H') ys (((ms.take i).filter keep).map val)
theorem Lc.zero {keep : α → Bool} {val : α → β} (hD : H D = none) : Lc R ms keep val H D 0 (upd H D (.lst [])) := ⟨same_new _ hD, [], upd_same, .nil⟩
theorem Lc.more (kR : ∀ H H' x b, Ke H H' → R H x b → R H' x b) {keep : α → Bool} {val : α → β} {i : Nat} {s : α} {H' H4 : Hp} {y : V} (hD : H D = none) (p : Lc R ms keep val H D i H') (hs : ms[i]? = some s) (hz : ms.length ≤ 100000) (hk : keep s = true) (sm : Same H' H4) (r : R H4 y (val s)) :
    ∃ acc, H4 D = some (.lst acc) ∧ acc.length < sizeLine ∧ Lc R ms keep val H D (i + 1) (upd H4 D (.lst (acc ++ [y]))) := by
  obtain ⟨s0, ys, h1, h2⟩ := p
  have hd := sm _ _ h1
  have hi := (List.getElem?_eq_some_iff.mp hs).1
  refine ⟨ys, hd, ?_, same_past (s0.trans sm) hD, ys ++ [y], upd_same, ?_⟩
  · refine z100' ?_
    rw [pr_len h2, List.length_map]
    have := List.length_filter_le keep (ms.take i)
    rw [List.length_take] at this
    omega
  · rw [List.take_add_one, hs, List.filter_append, List.map_append]
    have e : (List.filter keep (some s).toList).map val = [val s] := by
      show ((([s] : List α)).filter keep).map val = [val s]
      rw [List.filter_cons, if_pos hk]
      rfl
    rw [e]
    have k2 : Ke H4 (upd H4 D (.lst (ys ++ [y]))) := Ke.lst hd
    exact pr_append (pr_mono h2 fun _ _ q => kR _ _ _ _ ((Ke.of sm).trans k2) q) (pr_one (kR _ _ _ _ k2 r))
theorem Lc.less (kR : ∀ H H' x b, Ke H H' → R H x b → R H' x b) {keep : α → Bool} {val : α → β} {i : Nat} {s : α} {H' H3 : Hp} (p : Lc R ms keep val H D i H') (hs : ms[i]? = some s) (hk : keep s = false) (sm : Same H' H3) : Lc R ms keep val H D (i + 1) H3 := by
  obtain ⟨s0, ys, h1, h2⟩ := p
  refine ⟨s0.trans sm, ys, sm _ _ h1, ?_⟩
  rw [List.take_add_one, hs, List.filter_append, List.map_append]
  have e : (List.filter keep (some s).toList).map val = [] := by
    show ((([s] : List α)).filter keep).map val = []
    rw [List.filter_cons, if_neg (by rw [hk]; exact Bool.false_ne_true)]
    rfl
  rw [e, List.append_nil]
  exact pr_mono h2 fun _ _ q => kR _ _ _ _ (Ke.of sm) q
/-- a turn, for any goal behind it -/
abbrev LcTurn (R0 : Hp → V → α → Prop) (R : Hp → V → β → Prop) (ms : List α) (keep : α → Bool) (val : α → β) (g : TG) (tt : TT) (te : TE) (vs : List Nat) (σ : L2.St) (H : Hp) : Prop :=
  ∀ (x : V) (s : α) (H' : Hp) (k : V → Hp → Prop) (k0 : Hp → Prop), Same H H' → R0 H x s → s ∈ ms → (keep s = true → ∀ y H4, Same H' H4 → R H4 y (val s) → k y H4) → (keep s = false → ∀ H3, Same H' H3 → k0 H3) →
    g x (wipe σ vs) H' fun σ2 H2 => wipe σ2 vs = wipe σ vs ∧ tt σ2 H2 fun b H3 => if b = true then te σ2 H3 k else k0 H3
theorem lcT (kR : ∀ H H' x b, Ke H H' → R H x b → R H' x b) (keep : α → Bool) (val : α → β) (hs : H a = some (.tup xs)) (hp : Paired (R0 H) xs ms) (hz : ms.length ≤ 100000) (hD : H D = none) (turn : LcTurn R0 R ms keep val g tt te vs σ H)
    (hd : ∀ H' ys, Same H H' → H' D = some (.lst ys) → Paired (R H') ys ((ms.filter keep).map val) → Qd H') :
    ∃ W : Nat → Nat → Hp → Prop, (∃ m, W 0 m (upd H D (.lst []))) ∧ ∀ i m H, W i m H →
      ((Itt K a).stop i H ∧ Qd H) ∨ ((Itt K a).go i H ∧ ∃ Nx : Hp → Prop, (∀ H', Nx H' → ∃ m', m' < m ∧ W (i + 1) m' H') ∧ ∀ x H', (Itt K a).yld i H x H' → g x (wipe σ vs) H' fun σ2 H2 => wipe σ2 vs = wipe σ vs ∧ tt σ2 H2 fun b H3 =>
        if b = true then te σ2 H3 fun y H4 => ∃ acc, H4 D = some (.lst acc) ∧ acc.length < sizeLine ∧ Nx (upd H4 D (.lst (acc ++ [y]))) else Nx H3) := by
  refine lc_tup (xs := xs) (Lc R ms keep val H D) (Lc.zero hD) (fun i H' _ p => SqT.of (p.1 _ _ hs)) (fun i x H' hi p => ?_) fun H' p => ?_
  · obtain ⟨s, h1, h2⟩ := pr_get hp hi
    exact turn x s H' _ _ p.1 h2 (List.mem_of_getElem? h1) (fun hk y H4 sm r => p.more kR hD h1 hz hk sm r) (fun hk H3 sm => p.less kR h1 hk sm)
  · obtain ⟨s0, ys, h1, h2⟩ := p
    rw [pr_len hp, List.take_length] at h2
    exact hd H' ys s0 h1 h2
theorem lcL (kR : ∀ H H' x b, Ke H H' → R H x b → R H' x b) (keep : α → Bool) (val : α → β) (hs : H a = some (.lst xs)) (hp : Paired (R0 H) xs ms) (hz : ms.length ≤ 100000) (hD : H D = none) (turn : LcTurn R0 R ms keep val g tt te vs σ H)
    (hd : ∀ H' ys, Same H H' → H' D = some (.lst ys) → Paired (R H') ys ((ms.filter keep).map val) → Qd H') :
    ∃ W : Nat → Nat → Hp → Prop, (∃ m, W 0 m (upd H D (.lst []))) ∧ ∀ i m H, W i m H →
      ((Itl K a).stop i H ∧ Qd H) ∨ ((Itl K a).go i H ∧ ∃ Nx : Hp → Prop, (∀ H', Nx H' → ∃ m', m' < m ∧ W (i + 1) m' H') ∧ ∀ x H', (Itl K a).yld i H x H' → g x (wipe σ vs) H' fun σ2 H2 => wipe σ2 vs = wipe σ vs ∧ tt σ2 H2 fun b H3 =>
        if b = true then te σ2 H3 fun y H4 => ∃ acc, H4 D = some (.lst acc) ∧ acc.length < sizeLine ∧ Nx (upd H4 D (.lst (acc ++ [y]))) else Nx H3) := by
  refine lc_list (xs := xs) (Lc R ms keep val H D) (Lc.zero hD) (fun i H' _ p => SqL.of (p.1 _ _ hs)) (fun i x H' hi p => ?_) fun H' p => ?_
  · obtain ⟨s, h1, h2⟩ := pr_get hp hi
    exact turn x s H' _ _ p.1 h2 (List.mem_of_getElem? h1) (fun hk y H4 sm r => p.more kR hD h1 hz hk sm r) (fun hk H3 sm => p.less kR h1 hk sm)
  · obtain ⟨s0, ys, h1, h2⟩ := p
    rw [pr_len hp, List.take_length] at h2
    exact hd H' ys s0 h1 h2
end
theorem filter_yes {α : Type} (ms : List α) : ms.filter (fun _ => true) = ms := by
  induction ms with
  | nil => rfl
  | cons a r ih => rw [List.filter_cons, if_pos rfl, ih]
theorem kT3 : ∀ (H H' : Hp) (x : V) (b : Step), Ke H H' → T3 H x b → T3 H' x b := fun _ _ _ _ k h => h.ke k
/-- a value that leans on no heap -/
theorem kV0 {β : Type} {f : β → V} : ∀ (H H' : Hp) (x : V) (b : β), Ke H H' → (fun (_ : Hp) (x : V) (b : β) => x = f b) H x b → (fun (_ : Hp) (x : V) (b : β) => x = f b) H' x b := fun _ _ _ _ _ h => h
theorem pr_eq {β : Type} {f : β → V} {xs : List V} {ys : List β} (h : Paired (fun x b => x = f b) xs ys) : xs = ys.map f := by
  induction h with
  | nil => rfl
  | cons a _ ih => rw [a, ih]; rfl
theorem eq_pr {β : Type} {f : β → V} : ∀ {ys : List β}, Paired (fun x b => x = f b) (ys.map f) ys
  | [] => .nil
  | _ :: _ => .cons rfl eq_pr
end Wm
end
section
set_option Elab.async false
set_option linter.all false
set_option maxRecDepth 100000
set_option maxHeartbeats 4000000
namespace Wm
open PySem PySem.Spec PyProof.Rows L2
/-! ### rules in one way -/
/-- a new object, the heap behind it by a letter -/
@[elab_as_elim] theorem gen {H : Hp} {p : Addr} {o : HO} {G : Hp → Prop} (np : H p = none) (h : ∀ H', Same H H' → H' p = some o → G H') : G (upd H p o) := h _ (same_new _ np) upd_same
theorem sort3i {K : PySem.W.Frag} {H : Hp} {xs : List V} {ss : List Step} (h : T3s H xs ss) : ∀ x ∈ xs, ∃ n r, TupI K H x (n :: r) := fun x hx => by
  obtain ⟨s, _, b, rfl, e⟩ := pr_mem h hx
  exact ⟨s.1, [s.2.1, s.2.2], b, rfl, SqT.of e⟩
theorem sort3 {K : PySem.W.Frag} {H : Hp} {xs ys : List V} {ss : List Step} (h : T3s H xs ss) (pm : ys.Perm xs) (pw : ys.Pairwise (fun x y => ∀ n r m q, TupI K H x (n :: r) → TupI K H y (m :: q) → n ≤ m)) :
    ∃ ss', T3s H ys ss' ∧ ss'.Perm ss ∧ ss'.Pairwise (fun a b => a.1 ≤ b.1) := by
  obtain ⟨ss', h1, h2⟩ := pr_perm pm h
  refine ⟨ss', h1, h2, pr_sorted h1 (pw.imp fun {x y} hxy a b ra rb => ?_)⟩
  obtain ⟨t, rfl, e⟩ := ra
  obtain ⟨t', rfl, e'⟩ := rb
  exact hxy a.1 [a.2.1, a.2.2] b.1 [b.2.1, b.2.2] ⟨t, rfl, SqT.of e⟩ ⟨t', rfl, SqT.of e'⟩
theorem web_at {H : Hp} {many : Nat} {p b : Addr} {ys : List V} {ss : List Step} (hp : H p = some (.tup [.int many, .ref b])) (hb : H b = some (.tup ys)) (h : T3s H ys ss) : WebAt H (.ref p) ⟨many, ss⟩ := ⟨p, .ref b, rfl, hp, b, ys, rfl, hb, h⟩
theorem two_le : 2 ≤ sizeLine := by decide
theorem three_le : 3 ≤ sizeLine := by decide
theorem yesT {te : TE} {σ : L2.St} {H : Hp} {k : V → Hp → Prop} {k0 : Hp → Prop} (h : te σ H k) : tYes σ H fun b H3 => if b = true then te σ H3 k else k0 H3 := by
  show (if true = true then te σ H k else k0 H)
  rw [if_pos rfl]
  exact h
section
variable {P : Program} {w : World} {K : PySem.W.Frag} {mg : Str → Option Value} {base : Heap}
/-! ### put_meet -/
def sp_put_meet : Sp := fun vs H Q _ => ∃ (x y : V) (W : Web) (s : Step), vs = [x, y] ∧ WebAt H x W ∧ T3 H y s ∧ W.meets.length < 24 ∧
  ∀ v' H' W', Same H H' → WebAt H' v' W' → W'.many = W.many → (∀ r, r ∈ W'.meets ↔ r ∈ W.meets ∨ r = s) → W'.meets.length ≤ W.meets.length + 1 → Q v' H'
theorem sc_put_meet : FnScope ["web", "meet"] ["web", "meet"] (defScope s_put_meet) := ⟨rfl, rfl, rfl, by decide +kernel, rfl, by decide +kernel, by decide +kernel⟩
theorem ok_put_meet (hh : Here K mg "put_meet" s_put_meet) (T : Tp K mg)  : Fn P w K mg base CX0 1 "put_meet" ["web", "meet"] sp_put_meet := by
  refine fn_mk hh sc_put_meet (fun vs H Q E h => ?_) (fun _ _ _ _ _ _ us hl => match us, hl with | [_, _], _ => rfl) (fun f cdv A outer s H vs Q E hr h => ?_)
  · obtain ⟨x, y, W, s, rfl, _⟩ := h
    rfl
  obtain ⟨x, y, W, s, rfl, hW, hs, hlt, q⟩ := h
  obtain ⟨a, z, rfl, ha, b, ms, rfl, hb, hm⟩ := id hW
  obtain ⟨c, rfl, hc⟩ := id hs
  have hl : ms.length = W.meets.length := pr_len hm
  refine ⟨_, (pss_cons (ps_if (pt_cmpR (op_inT (ru65 hr)) (pv 1) (pe_ix ix_tup (pv 0) pe_int (fun _ _ => rfl)) (by rfl))
        (pss_one (ps_ret (pv 0)))
        pss_nil)
      (pss_cons (ps_if (pt_cmpR op_ge (pe_callB call_len_seq (by rfl) T.len PySem.boot_len (pa_cons (pe_ix ix_tup (pv 0) pe_int (fun _ _ => rfl)) pa_nil)) (pe_glob (v := .int 24) rfl T.meets.choose_spec ⟨_, rfl⟩) (nomark _))
        (pss_one ps_never)
        pss_nil)
      (pss_one (ps_ret (pe_tup (pa_cons (pe_ix ix_tup (pv 0) pe_int (fun _ _ => rfl)) (pa_cons (pe_callTy call_tuple_of (by rfl) T.tuple (by decide +kernel) (pa_cons (pe_callB cr_sort3 (by rfl) T.sorted (by decide +kernel) (pa_cons (pe_op op_catA (pe_ix ix_tup (pv 0) pe_int (fun _ _ => rfl)) (pe_tup (pa_cons (pv 1) pa_nil))) pa_nil)) pa_nil)) pa_nil))))))), ?_⟩
  refine ⟨_, rfl, _, rfl, a, _, _, _, rfl, rfl, SqT.of ha, rfl, _, _, hs.dp, (show TupOfs H (.ref b) W.meets from ⟨b, ms, rfl, hb, hm⟩).dp, tri_shaped _, tris_shapedT _, _, rfl, ?_⟩
  refine ite2 (fun e => ?_) (fun e => ?_)
  · rw [if_neg Bool.false_ne_true, any_tri] at e
    have hin := of_decide_eq_true e
    refine ⟨_, rfl, q _ H W (Same.refl _) hW rfl (fun r => ⟨.inl, fun z => ?_⟩) (by omega)⟩
    rcases z with z | z
    · exact z
    · rw [z]; exact hin
  · refine ⟨_, rfl, a, _, _, _, rfl, rfl, SqT.of ha, rfl, b, _, rfl, .inr (SqT.of hb), _, _, rfl, rfl, _, rfl, ?_⟩
    refine ite2 (fun e => ?_) (fun _ => ?_)
    · have h1 : (24 : Int) ≤ (ms.length : Int) := of_decide_eq_true e
      omega
    · refine ⟨_, rfl, a, _, _, _, rfl, rfl, SqT.of ha, rfl, _, rfl, a, _, _, _, rfl, rfl, SqT.of ha, rfl, _, rfl, (by show 1 ≤ sizeLine; decide), fun p1 n1 => gen n1 fun H1 s1 e1 => ?_⟩
      refine ⟨b, p1, ms, _, rfl, rfl, SqT.of (s1 _ _ hb), SqT.of e1, z100 (by simp; omega), fun e => ?_, fun _ e => (by cases e), fun _ _ p2 n2 => gen n2 fun H2 s2 e2 => ?_⟩
      · have t2 : T3s H1 [V.ref c] (W.meets ++ [s]) := by
          rw [e] at hm
          cases hm' : W.meets with
          | nil => exact pr_one (hs.ke (.of s1))
          | cons a r => rw [hm'] at hm; cases hm
        refine ⟨p1, _, rfl, .inr (SqT.of e1), sort3i t2, fun ys p3 pm pw n3 => gen n3 fun H3 s3 e3 => ?_⟩
        obtain ⟨ss, t3, pm', _⟩ := sort3 t2 pm pw
        refine ⟨p3, ys, rfl, .inl ⟨SqL.of e3, fun p4 n4 => gen n4 fun H4 s4 e4 => ?_⟩⟩
        refine ⟨two_le, fun p5 n5 => gen n5 fun H5 s5 e5 => ?_⟩
        have sm := ((s1.trans s3).trans s4).trans s5
        refine q _ H5 ⟨W.many, ss⟩ sm (web_at e5 (s5 _ _ e4) (T3s.ke t3 (.of ((s3.trans s4).trans s5)))) rfl (fun r => ?_) ?_
        · show r ∈ ss ↔ _
          rw [pm'.mem_iff, List.mem_append, List.mem_singleton]
        · show ss.length ≤ _
          rw [pm'.length_eq, List.length_append, List.length_singleton]
          exact Nat.le_refl _
      · have s02 := s1.trans s2
        have t2 : T3s H2 (ms ++ [V.ref c]) (W.meets ++ [s]) := pr_append (T3s.ke hm (.of s02)) (pr_one (hs.ke (.of s02)))
        refine ⟨p2, _, rfl, .inr (SqT.of e2), sort3i t2, fun ys p3 pm pw n3 => gen n3 fun H3 s3 e3 => ?_⟩
        obtain ⟨ss, t3, pm', _⟩ := sort3 t2 pm pw
        refine ⟨p3, ys, rfl, .inl ⟨SqL.of e3, fun p4 n4 => gen n4 fun H4 s4 e4 => ?_⟩⟩
        refine ⟨two_le, fun p5 n5 => gen n5 fun H5 s5 e5 => ?_⟩
        have sm := ((s02.trans s3).trans s4).trans s5
        refine q _ H5 ⟨W.many, ss⟩ sm (web_at e5 (s5 _ _ e4) (T3s.ke t3 (.of ((s3.trans s4).trans s5)))) rfl (fun r => ?_) ?_
        · show r ∈ ss ↔ _
          rw [pm'.mem_iff, List.mem_append, List.mem_singleton]
        · show ss.length ≤ _
          rw [pm'.length_eq, List.length_append, List.length_singleton]
          exact Nat.le_refl _
/-! ### less_meet -/
def sp_less_meet : Sp := fun vs H Q _ => ∃ (x y : V) (W : Web) (s : Step), vs = [x, y] ∧ WebAt H x W ∧ T3 H y s ∧ s ∈ W.meets ∧ W.meets.length ≤ 1000 ∧
  ∀ v' H' W', Same H H' → WebAt H' v' W' → W'.many = W.many → W'.meets = W.meets.filter (fun r => decide (r ≠ s)) → Q v' H'
theorem sc_less_meet : FnScope ["web", "meet", "other"] ["web", "meet"] (defScope s_less_meet) := ⟨rfl, rfl, rfl, by decide +kernel, rfl, by decide +kernel, by decide +kernel⟩
theorem ok_less_meet (hh : Here K mg "less_meet" s_less_meet) (T : Tp K mg)  : Fn P w K mg base CX0 1 "less_meet" ["web", "meet"] sp_less_meet := by
  refine fn_mk hh sc_less_meet (fun vs H Q E h => ?_) (fun _ _ _ _ _ _ us hl => match us, hl with | [_, _], _ => rfl) (fun f cdv A outer s H vs Q E hr h => ?_)
  · obtain ⟨x, y, W, s, rfl, _⟩ := h
    rfl
  obtain ⟨x, y, W, s, rfl, hW, hs, hin, hlt, q⟩ := h
  obtain ⟨a, z, rfl, ha, b, ms, rfl, hb, hm⟩ := id hW
  obtain ⟨c, rfl, hc⟩ := id hs
  refine ⟨_, (pss_cons (ps_if (pt_cmpR (op_notInT (ru65 hr)) (pv 1) (pe_ix ix_tup (pv 0) pe_int (fun _ _ => rfl)) (by rfl))
        (pss_one ps_never)
        pss_nil)
      (pss_one (ps_ret (pe_tup (pa_cons (pe_ix ix_tup (pv 0) pe_int (fun _ _ => rfl)) (pa_cons (pe_callTy call_tuple_of (by rfl) T.tuple (by decide +kernel) (pa_cons (pe_lc (own := [("other", 2)]) (g := gName 2) (tt := (tTest (tOp (rNeD K) (tVar 2) (tVar 1)))) (te := (tVar 2)) rfl sc_less_meet.nd (pi_tup (pe_ix ix_tup (pv 0) pe_int (fun _ _ => rfl))) (blkOk_by (own := [("other", 2)]) (N := ["web", "meet", "other"]) (sc := defScope s_less_meet) (by decide +kernel)) (fun _ _ _ _ _ => (pg_name (i := 2) sc_less_meet.nd rfl (.inl rfl))) (fun _ _ _ _ _ => pts_one (pt_cmpR (op_neD (ru64 hr)) (pv 2) (pv 1) (nomark _))) (fun _ _ _ _ _ => pv 2)) pa_nil)) pa_nil)))))), ?_⟩
  refine ⟨_, rfl, _, rfl, a, _, _, _, rfl, rfl, SqT.of ha, rfl, _, _, hs.dp, (show TupOfs H (.ref b) W.meets from ⟨b, ms, rfl, hb, hm⟩).dp, tri_shaped _, tris_shapedT _, _, rfl, ?_⟩
  refine ite2 (fun e => ?_) (fun _ => ?_)
  · rw [if_pos rfl, any_tri, decide_eq_true hin] at e
    cases e
  · refine ⟨_, rfl, a, _, _, _, rfl, rfl, SqT.of ha, rfl, _, rfl, a, _, _, _, rfl, rfl, SqT.of ha, rfl, b, rfl, ⟨_, SqT.of hb⟩, fun D nD => ?_⟩
    refine lcT (R0 := T3) (R := T3) (β := Step) kT3 (fun r => decide (r ≠ s)) id hb hm (by omega) nD (fun x r H1 k k0 sm hx hr hk hk0 => ?_) fun H1 ys s1 e1 t1 => ?_
    · refine ⟨rfl, _, rfl, _, rfl, _, _, (hx.ke (.of sm)).dp, (hs.ke (.of sm)).dp, tri_shaped _, tri_shaped _, _, rfl, ?_⟩
      rw [tri_eqv]
      by_cases e : r = s
      · rw [decide_eq_true e]
        refine iteF (hk0 ?_ H1 (Same.refl _))
        exact decide_eq_false (fun z => z e)
      · rw [decide_eq_false e]
        refine iteT ⟨_, rfl, hk ?_ _ H1 (Same.refl _) (hx.ke (.of sm))⟩
        exact decide_eq_true e
    · refine ⟨D, ys, rfl, .inl ⟨SqL.of e1, fun p4 n4 => gen n4 fun H4 s4 e4 => ?_⟩⟩
      rw [List.map_id] at t1
      refine ⟨two_le, fun p5 n5 => gen n5 fun H5 s5 e5 => ?_⟩
      exact q _ H5 ⟨W.many, _⟩ ((s1.trans s4).trans s5) (web_at e5 (s5 _ _ e4) (T3s.ke t1 (.of (s4.trans s5)))) rfl rfl
/-! ### turned_web, later_web, kept_web -/
def sp_turned_web : Sp := fun vs H Q _ => ∃ (x : V) (W : Web), vs = [x] ∧ WebAt H x W ∧ W.meets.length ≤ 1000 ∧
  ∀ v' H' W', Same H H' → WebAt H' v' W' → W'.many = W.many → W'.meets.Perm (W.meets.map fun s => (0 - s.1, s.2.1, s.2.2)) → Q v' H'
theorem sc_turned_web : FnScope ["web", "moment", "one", "other"] ["web"] (defScope s_turned_web) := ⟨rfl, rfl, rfl, by decide +kernel, rfl, by decide +kernel, by decide +kernel⟩
theorem ok_turned_web (hh : Here K mg "turned_web" s_turned_web) (T : Tp K mg)  : Fn P w K mg base CX0 1 "turned_web" ["web"] sp_turned_web := by
  refine fn_mk hh sc_turned_web (fun vs H Q E h => ?_) (fun _ _ _ _ _ _ us hl => match us, hl with | [_], _ => rfl) (fun f cdv A outer s H vs Q E hr h => ?_)
  · obtain ⟨x, W, rfl, _⟩ := h
    rfl
  obtain ⟨x, W, rfl, hW, hlt, q⟩ := h
  obtain ⟨a, z, rfl, ha, b, ms, rfl, hb, hm⟩ := id hW
  refine ⟨_, (pss_one (ps_ret (pe_tup (pa_cons (pe_ix ix_tup (pv 0) pe_int (fun _ _ => rfl)) (pa_cons (pe_callTy call_tuple_of (by rfl) T.tuple (by decide +kernel) (pa_cons (pe_callB cr_sort3 (by rfl) T.sorted (by decide +kernel) (pa_cons (pe_lc (own := [("moment", 1), ("one", 2), ("other", 3)]) (g := gTup K 3 (gCons (gName 1) (gCons (gName 2) (gCons (gName 3) gNil)))) (tt := tYes) (te := (tTup (tCons (tOp (rI0 fun i j => .int (i - j)) (tC (.int 0)) (tVar 1)) (tCons (tVar 2) (tCons (tVar 3) tNil))))) rfl sc_turned_web.nd (pi_tup (pe_ix ix_tup (pv 0) pe_int (fun _ _ => rfl))) (blkOk_by (own := [("moment", 1), ("one", 2), ("other", 3)]) (N := ["web", "moment", "one", "other"]) (sc := defScope s_turned_web) (by decide +kernel)) (fun _ _ _ _ _ => (pg_tup rfl (pgs_cons (pg_name (i := 1) sc_turned_web.nd rfl (.inl rfl)) (pgs_cons (pg_name (i := 2) sc_turned_web.nd rfl (.inl rfl)) (pgs_cons (pg_name (i := 3) sc_turned_web.nd rfl (.inl rfl)) pgs_nil))))) (fun _ _ _ _ _ => pts_nil) (fun _ _ _ _ _ => pe_tup (pa_cons (pe_op op_sub pe_int (pv 1)) (pa_cons (pv 2) (pa_cons (pv 3) pa_nil))))) pa_nil)) pa_nil)) pa_nil))))), ?_⟩
  refine ⟨_, rfl, a, _, _, _, rfl, rfl, SqT.of ha, rfl, _, rfl, a, _, _, _, rfl, rfl, SqT.of ha, rfl, b, rfl, ⟨_, SqT.of hb⟩, fun D nD => ?_⟩
  refine lcT (R0 := T3) (R := T3) (β := Step) kT3 (fun _ => true) (fun s => (0 - s.1, s.2.1, s.2.2)) hb hm (by omega) nD (fun x r H1 k k0 sm hx hr hk hk0 => ?_) fun H1 ys s1 e1 t1 => ?_
  · obtain ⟨c, rfl, hc⟩ := hx.ke (.of sm)
    refine ⟨c, _, rfl, SqT.of hc, rfl, _, _, rfl, _, _, rfl, _, _, rfl, rfl, rfl, yesT ?_⟩
    exact ⟨_, rfl, _, _, rfl, rfl, _, rfl, _, rfl, three_le, fun p2 n2 => gen n2 fun H2 s2 e2 => hk rfl _ H2 s2 ⟨p2, rfl, e2⟩⟩
  · rw [filter_yes] at t1
    refine ⟨D, ys, rfl, .inl (SqL.of e1), sort3i t1, fun zs p3 pm pw n3 => gen n3 fun H3 s3 e3 => ?_⟩
    obtain ⟨ss, t3, pm', _⟩ := sort3 t1 pm pw
    refine ⟨p3, zs, rfl, .inl ⟨SqL.of e3, fun p4 n4 => gen n4 fun H4 s4 e4 => ?_⟩⟩
    refine ⟨two_le, fun p5 n5 => gen n5 fun H5 s5 e5 => ?_⟩
    exact q _ H5 ⟨W.many, ss⟩ (((s1.trans s3).trans s4).trans s5) (web_at e5 (s5 _ _ e4) (T3s.ke t3 (.of ((s3.trans s4).trans s5)))) rfl pm'
def sp_later_web : Sp := fun vs H Q _ => ∃ (x : V) (W : Web) (d : Int), vs = [x, .int d] ∧ WebAt H x W ∧ W.meets.length ≤ 1000 ∧
  ∀ v' H' W', Same H H' → WebAt H' v' W' → W'.many = W.many → W'.meets = (W.meets.map fun s => (s.1 + d, s.2.1, s.2.2)) → Q v' H'
theorem sc_later_web : FnScope ["web", "by", "moment", "one", "other"] ["web", "by"] (defScope s_later_web) := ⟨rfl, rfl, rfl, by decide +kernel, rfl, by decide +kernel, by decide +kernel⟩
theorem ok_later_web (hh : Here K mg "later_web" s_later_web) (T : Tp K mg)  : Fn P w K mg base CX0 1 "later_web" ["web", "by"] sp_later_web := by
  refine fn_mk hh sc_later_web (fun vs H Q E h => ?_) (fun _ _ _ _ _ _ us hl => match us, hl with | [_, _], _ => rfl) (fun f cdv A outer s H vs Q E hr h => ?_)
  · obtain ⟨x, W, d, rfl, _⟩ := h
    rfl
  obtain ⟨x, W, d, rfl, hW, hlt, q⟩ := h
  obtain ⟨a, z, rfl, ha, b, ms, rfl, hb, hm⟩ := id hW
  refine ⟨_, (pss_one (ps_ret (pe_tup (pa_cons (pe_ix ix_tup (pv 0) pe_int (fun _ _ => rfl)) (pa_cons (pe_callTy call_tuple_of (by rfl) T.tuple (by decide +kernel) (pa_cons (pe_lc (own := [("moment", 2), ("one", 3), ("other", 4)]) (g := gTup K 3 (gCons (gName 2) (gCons (gName 3) (gCons (gName 4) gNil)))) (tt := tYes) (te := (tTup (tCons (tOp (rI0 fun i j => .int (i + j)) (tVar 2) (tVar 1)) (tCons (tVar 3) (tCons (tVar 4) tNil))))) rfl sc_later_web.nd (pi_tup (pe_ix ix_tup (pv 0) pe_int (fun _ _ => rfl))) (blkOk_by (own := [("moment", 2), ("one", 3), ("other", 4)]) (N := ["web", "by", "moment", "one", "other"]) (sc := defScope s_later_web) (by decide +kernel)) (fun _ _ _ _ _ => (pg_tup rfl (pgs_cons (pg_name (i := 2) sc_later_web.nd rfl (.inl rfl)) (pgs_cons (pg_name (i := 3) sc_later_web.nd rfl (.inl rfl)) (pgs_cons (pg_name (i := 4) sc_later_web.nd rfl (.inl rfl)) pgs_nil))))) (fun _ _ _ _ _ => pts_nil) (fun _ _ _ _ _ => pe_tup (pa_cons (pe_op op_add (pv 2) (pv 1)) (pa_cons (pv 3) (pa_cons (pv 4) pa_nil))))) pa_nil)) pa_nil))))), ?_⟩
  refine ⟨_, rfl, a, _, _, _, rfl, rfl, SqT.of ha, rfl, _, rfl, a, _, _, _, rfl, rfl, SqT.of ha, rfl, b, rfl, ⟨_, SqT.of hb⟩, fun D nD => ?_⟩
  refine lcT (R0 := T3) (R := T3) (β := Step) kT3 (fun _ => true) (fun s => (s.1 + d, s.2.1, s.2.2)) hb hm (by omega) nD (fun x r H1 k k0 sm hx hr hk hk0 => ?_) fun H1 ys s1 e1 t1 => ?_
  · obtain ⟨c, rfl, hc⟩ := hx.ke (.of sm)
    refine ⟨c, _, rfl, SqT.of hc, rfl, _, _, rfl, _, _, rfl, _, _, rfl, rfl, rfl, yesT ?_⟩
    exact ⟨_, rfl, _, rfl, _, _, rfl, rfl, _, rfl, _, rfl, three_le, fun p2 n2 => gen n2 fun H2 s2 e2 => hk rfl _ H2 s2 ⟨p2, rfl, e2⟩⟩
  · rw [filter_yes] at t1
    refine ⟨D, ys, rfl, .inl ⟨SqL.of e1, fun p4 n4 => gen n4 fun H4 s4 e4 => ?_⟩⟩
    refine ⟨two_le, fun p5 n5 => gen n5 fun H5 s5 e5 => ?_⟩
    exact q _ H5 ⟨W.many, _⟩ ((s1.trans s4).trans s5) (web_at e5 (s5 _ _ e4) (T3s.ke t1 (.of (s4.trans s5)))) rfl rfl
def sp_kept_web : Sp := fun vs H Q _ => ∃ (x : V) (W : Web) (lo hi : Int), vs = [x, .int lo, .int hi] ∧ WebAt H x W ∧ W.meets.length ≤ 1000 ∧
  ∀ v' H' W', Same H H' → WebAt H' v' W' → W'.many = W.many → W'.meets = W.meets.filter (fun s => decide (lo ≤ s.1) && decide (s.1 ≤ hi)) → Q v' H'
theorem sc_kept_web : FnScope ["web", "first", "last", "meet"] ["web", "first", "last"] (defScope s_kept_web) := ⟨rfl, rfl, rfl, by decide +kernel, rfl, by decide +kernel, by decide +kernel⟩
theorem ok_kept_web (hh : Here K mg "kept_web" s_kept_web) (T : Tp K mg)  : Fn P w K mg base CX0 1 "kept_web" ["web", "first", "last"] sp_kept_web := by
  refine fn_mk hh sc_kept_web (fun vs H Q E h => ?_) (fun _ _ _ _ _ _ us hl => match us, hl with | [_, _, _], _ => rfl) (fun f cdv A outer s H vs Q E hr h => ?_)
  · obtain ⟨x, W, lo, hi, rfl, _⟩ := h
    rfl
  obtain ⟨x, W, lo, hi, rfl, hW, hlt, q⟩ := h
  obtain ⟨a, z, rfl, ha, b, ms, rfl, hb, hm⟩ := id hW
  refine ⟨_, (pss_one (ps_ret (pe_tup (pa_cons (pe_ix ix_tup (pv 0) pe_int (fun _ _ => rfl)) (pa_cons (pe_callTy call_tuple_of (by rfl) T.tuple (by decide +kernel) (pa_cons (pe_lc (own := [("meet", 3)]) (g := gName 3) (tt := (tTest (tChain (rI0 fun i j => .bl (decide (i ≤ j))) (rI0 fun i j => .bl (decide (i ≤ j))) (tVar 1) (tOp (rIxT K) (tVar 3) (tC (.int 0))) (tVar 2)))) (te := (tVar 3)) rfl sc_kept_web.nd (pi_tup (pe_ix ix_tup (pv 0) pe_int (fun _ _ => rfl))) (blkOk_by (own := [("meet", 3)]) (N := ["web", "first", "last", "meet"]) (sc := defScope s_kept_web) (by decide +kernel)) (fun _ _ _ _ _ => (pg_name (i := 3) sc_kept_web.nd rfl (.inl rfl))) (fun _ _ _ _ _ => pts_one (pt_chain op_le op_le (pv 1) (pe_ix ix_tup (pv 3) pe_int (fun _ _ => rfl)) (pv 2))) (fun _ _ _ _ _ => pv 3)) pa_nil)) pa_nil))))), ?_⟩
  refine ⟨_, rfl, a, _, _, _, rfl, rfl, SqT.of ha, rfl, _, rfl, a, _, _, _, rfl, rfl, SqT.of ha, rfl, b, rfl, ⟨_, SqT.of hb⟩, fun D nD => ?_⟩
  refine lcT (R0 := T3) (R := T3) (β := Step) kT3 (fun s => decide (lo ≤ s.1) && decide (s.1 ≤ hi)) id hb hm (by omega) nD (fun x r H1 k k0 sm hx hr hk hk0 => ?_) fun H1 ys s1 e1 t1 => ?_
  · have hx1 := hx.ke (.of sm)
    obtain ⟨c, rfl, hc⟩ := id hx1
    refine ⟨rfl, _, rfl, _, rfl, c, _, _, _, rfl, rfl, SqT.of hc, rfl, _, _, rfl, rfl, _, rfl, ?_⟩
    by_cases e1 : lo ≤ r.1
    · rw [decide_eq_true e1]
      refine iteT ⟨_, rfl, _, _, rfl, rfl, _, rfl, ?_⟩
      by_cases e2 : r.1 ≤ hi
      · rw [decide_eq_true e2]
        refine iteT ⟨_, rfl, hk ?_ _ H1 (Same.refl _) hx1⟩
        show (decide (lo ≤ r.1) && decide (r.1 ≤ hi)) = true
        rw [decide_eq_true e1, decide_eq_true e2]
        rfl
      · rw [decide_eq_false e2]
        refine iteF (hk0 ?_ H1 (Same.refl _))
        show (decide (lo ≤ r.1) && decide (r.1 ≤ hi)) = false
        rw [decide_eq_false e2, Bool.and_false]
    · rw [decide_eq_false e1]
      refine iteF ⟨_, rfl, iteF (hk0 ?_ H1 (Same.refl _))⟩
      show (decide (lo ≤ r.1) && decide (r.1 ≤ hi)) = false
      rw [decide_eq_false e1, Bool.false_and]
  · rw [List.map_id] at t1
    refine ⟨D, ys, rfl, .inl ⟨SqL.of e1, fun p4 n4 => gen n4 fun H4 s4 e4 => ?_⟩⟩
    refine ⟨two_le, fun p5 n5 => gen n5 fun H5 s5 e5 => ?_⟩
    exact q _ H5 ⟨W.many, _⟩ ((s1.trans s4).trans s5) (web_at e5 (s5 _ _ e4) (T3s.ke t1 (.of (s4.trans s5)))) rfl rfl
end
end Wm
end
section
set_option Elab.async false
set_option linter.all false
set_option maxRecDepth 100000
set_option maxHeartbeats 4000000
namespace Wm
open PySem PySem.Spec PyProof.Rows L2
section
variable {P : Program} {w : World} {K : PySem.W.Frag} {mg : Str → Option Value} {base : Heap}
/-! ### renamed_web -/
abbrev nV (n : Nat) : V := .int (n : Int)
theorem nGet {os : List Nat} {i : Nat} (h : i < os.length) : atI (os.map nV) (i : Int) = some (nV (os.getD i 0)) := atI_nat (by
  rw [List.getElem?_map, List.getElem?_eq_getElem h, List.getD_eq_getElem?_getD, List.getElem?_eq_getElem h]
  rfl)
def rname (os : List Nat) (s : Step) : Step := (s.1, min (os.getD s.2.1 0) (os.getD s.2.2 0), max (os.getD s.2.1 0) (os.getD s.2.2 0))
def sp_renamed_web : Sp := fun vs H Q _ => ∃ (x : V) (W : Web) (oa : Addr) (os : List Nat), vs = [x, .ref oa] ∧ WebAt H x W ∧ H oa = some (.tup (os.map nV)) ∧ (∀ s ∈ W.meets, s.2.1 < os.length ∧ s.2.2 < os.length) ∧ W.meets.length ≤ 1000 ∧
  ∀ v' H' W', Same H H' → WebAt H' v' W' → W'.many = W.many → W'.meets.Perm (W.meets.map (rname os)) → Q v' H'
theorem sc_renamed_web : FnScope ["web", "order", "meets", "moment", "one", "other"] ["web", "order"] (defScope s_renamed_web) := ⟨rfl, rfl, rfl, by decide +kernel, rfl, by decide +kernel, by decide +kernel⟩
theorem ok_renamed_web (hh : Here K mg "renamed_web" s_renamed_web) (T : Tp K mg) (F_risen_meet : Fn P w K mg base CX0 1 "risen_meet" ["moment", "one", "other"] sp_risen_meet) : Fn P w K mg base CX0 2 "renamed_web" ["web", "order"] sp_renamed_web := by
  refine fn_mk hh sc_renamed_web (fun vs H Q E h => ?_) (fun _ _ _ _ _ _ us hl => match us, hl with | [_, _], _ => rfl) (fun f cdv A outer s H vs Q E hr h => ?_)
  · obtain ⟨x, W, oa, os, rfl, _⟩ := h
    rfl
  obtain ⟨x, W, oa, os, rfl, hW, ho, hin, hlt, q⟩ := h
  obtain ⟨a, z, rfl, ha, b, ms, rfl, hb, hm⟩ := id hW
  refine ⟨_, (pss_cons (ps_setLc (i := 2) (own := [("moment", 3), ("one", 4), ("other", 5)]) (g := gTup K 3 (gCons (gName 3) (gCons (gName 4) (gCons (gName 5) gNil)))) (tt := tYes) (te := (tCall sp_risen_meet [] E0 (tCons (tVar 3) (tCons (tOp (rIxT K) (tVar 1) (tVar 4)) (tCons (tOp (rIxT K) (tVar 1) (tVar 5)) tNil))))) rfl sc_renamed_web.nd rfl rfl (sw_true rfl rfl rfl (by decide +kernel)) (pi_tup (pe_ix ix_tup (pv 0) pe_int (fun _ _ => rfl))) (blkOk_by (own := [("moment", 3), ("one", 4), ("other", 5)]) (N := ["web", "order", "meets", "moment", "one", "other"]) (sc := defScope s_renamed_web) (by decide +kernel)) (fun _ _ _ _ _ => (pg_tup rfl (pgs_cons (pg_name (i := 3) sc_renamed_web.nd rfl (.inl rfl)) (pgs_cons (pg_name (i := 4) sc_renamed_web.nd rfl (.inl rfl)) (pgs_cons (pg_name (i := 5) sc_renamed_web.nd rfl (.inl rfl)) pgs_nil))))) (fun _ _ _ _ _ => pts_nil) (fun _ _ _ _ _ => pe_fn F_risen_meet (hr.mono (by decide)) (by rfl) (pa_cons (pv 3) (pa_cons (pe_ix ix_tup (pv 1) (pv 4) (fun _ _ => rfl)) (pa_cons (pe_ix ix_tup (pv 1) (pv 5) (fun _ _ => rfl)) pa_nil)))))
      (pss_one (ps_ret (pe_tup (pa_cons (pe_ix ix_tup (pv 0) pe_int (fun _ _ => rfl)) (pa_cons (pe_callTy call_tuple_of (by rfl) T.tuple (by decide +kernel) (pa_cons (pe_callB cr_sort3 (by rfl) T.sorted (by decide +kernel) (pa_cons (pv 2) pa_nil)) pa_nil)) pa_nil)))))), ?_⟩
  refine ⟨_, rfl, a, _, _, _, rfl, rfl, SqT.of ha, rfl, b, rfl, ⟨_, SqT.of hb⟩, fun D nD => ?_⟩
  refine lcT (R0 := T3) (R := T3) (β := Step) kT3 (fun _ => true) (rname os) hb hm (by omega) nD (fun x r H1 k k0 sm hx hr hk hk0 => ?_) fun H1 ys s1 e1 t1 => ?_
  · obtain ⟨c, rfl, hc⟩ := hx.ke (.of sm)
    have ho1 := sm _ _ ho
    obtain ⟨l1, l2⟩ := hin r hr
    refine ⟨c, _, rfl, SqT.of hc, rfl, _, _, rfl, _, _, rfl, _, _, rfl, rfl, rfl, yesT ?_⟩
    exact ⟨_, rfl, _, rfl, _, rfl, oa, _, _, _, rfl, rfl, SqT.of ho1, nGet l1, _, rfl, _, rfl, oa, _, _, _, rfl, rfl, SqT.of ho1, nGet l2,
      r.1, _, _, rfl, fun p H2 n2 s2 e2 => hk rfl _ H2 s2 ⟨p, rfl, e2⟩⟩
  · rw [filter_yes] at t1
    refine ⟨_, rfl, a, _, _, _, rfl, rfl, SqT.of (s1 _ _ ha), rfl, ?_⟩
    refine ⟨_, rfl, D, ys, rfl, .inl (SqL.of e1), sort3i t1, fun zs p3 pm pw n3 => gen n3 fun H3 s3 e3 => ?_⟩
    obtain ⟨ss, t3, pm', _⟩ := sort3 t1 pm pw
    refine ⟨p3, zs, rfl, .inl ⟨SqL.of e3, fun p4 n4 => gen n4 fun H4 s4 e4 => ?_⟩⟩
    refine ⟨two_le, fun p5 n5 => gen n5 fun H5 s5 e5 => ?_⟩
    exact q _ H5 ⟨W.many, ss⟩ (((s1.trans s3).trans s4).trans s5) (web_at e5 (s5 _ _ e4) (T3s.ke t3 (.of ((s3.trans s4).trans s5)))) rfl pm'
/-! ### steps_of -/
def dbl (ms : List Step) : List Step := ms.flatMap fun s => [s, (s.1, s.2.2, s.2.1)]
theorem mem_dbl {ms : List Step} {s : Step} : s ∈ dbl ms ↔ s ∈ ms ∨ (s.1, s.2.2, s.2.1) ∈ ms := by
  unfold dbl
  rw [List.mem_flatMap]
  constructor
  · rintro ⟨r, hr, h⟩
    rcases List.mem_cons.mp h with e | h
    · exact .inl (e ▸ hr)
    · rw [List.mem_singleton.mp h]
      exact .inr hr
  · rintro (h | h)
    · exact ⟨s, h, List.mem_cons_self⟩
    · exact ⟨_, h, List.mem_cons_of_mem _ (List.mem_singleton.mpr rfl)⟩
theorem dbl_len (ms : List Step) : (dbl ms).length = 2 * ms.length := by
  unfold dbl
  induction ms with
  | nil => rfl
  | cons a r ih =>
    simp only [List.flatMap_cons, List.length_append, ih, List.length_cons, List.length_nil]
    omega
theorem dbl_next {ms : List Step} {i : Nat} {s : Step} (h : ms[i]? = some s) : dbl (ms.take (i + 1)) = dbl (ms.take i) ++ [s, (s.1, s.2.2, s.2.1)] := by
  rw [List.take_add_one, h]
  unfold dbl
  rw [List.flatMap_append]
  rfl
def sp_steps_of : Sp := fun vs H Q _ => ∃ (x : V) (W : Web), vs = [x] ∧ WebAt H x W ∧ W.meets.length ≤ 1000 ∧
  ∀ p H' ys ss, H p = none → Same H H' → H' p = some (.lst ys) → T3s H' ys ss → (∀ s, s ∈ ss ↔ St W s) → ss.Pairwise (fun a b => a.1 ≤ b.1) → ss.length = 2 * W.meets.length → Q (.ref p) H'
theorem sc_steps_of : FnScope ["web", "found", "moment", "one", "other"] ["web"] (defScope s_steps_of) := ⟨rfl, rfl, rfl, by decide +kernel, rfl, by decide +kernel, by decide +kernel⟩
theorem ok_steps_of (hh : Here K mg "steps_of" s_steps_of) (T : Tp K mg)  : Fn P w K mg base CX0 1 "steps_of" ["web"] sp_steps_of := by
  refine fn_mk hh sc_steps_of (fun vs H Q E h => ?_) (fun _ _ _ _ _ _ us hl => match us, hl with | [_], _ => rfl) (fun f cdv A outer s H vs Q E hr h => ?_)
  · obtain ⟨x, W, rfl, _⟩ := h
    rfl
  obtain ⟨x, W, rfl, hW, hlt, q⟩ := h
  obtain ⟨a, z, rfl, ha, b, ms, rfl, hb, hm⟩ := id hW
  have hl : ms.length = W.meets.length := pr_len hm
  refine ⟨_, (pss_cons (ps_set (i := 1) sc_steps_of.nd rfl (.inl rfl) (pe_lst pa_nil))
      (pss_cons (ps_for PassesOwn.never rfl (pi_tup (pe_ix ix_tup (pv 0) pe_int (fun _ _ => rfl))) (pg_tup rfl (pgs_cons (pg_name (i := 2) sc_steps_of.nd rfl (.inl rfl)) (pgs_cons (pg_name (i := 3) sc_steps_of.nd rfl (.inl rfl)) (pgs_cons (pg_name (i := 4) sc_steps_of.nd rfl (.inl rfl)) pgs_nil))))
        (pss_one (ps_expr (pe_bm PySem.F.plainAttrs_list PySem.F.slot_list_extend PySem.F.type_list_extend mt_extend (pv 1) (pa_cons (pe_lst (pa_cons (pe_tup (pa_cons (pv 2) (pa_cons (pv 3) (pa_cons (pv 4) pa_nil)))) (pa_cons (pe_tup (pa_cons (pv 2) (pa_cons (pv 4) (pa_cons (pv 3) pa_nil)))) pa_nil))) pa_nil)))))
      (pss_one (ps_ret (pe_callB cr_sort3 (by rfl) T.sorted (by decide +kernel) (pa_cons (pv 1) pa_nil)))))), ?_⟩
  refine ⟨Nat.zero_le _, fun l nl => ?_⟩
  have sl := same_new (.lst []) nl
  refine ⟨_, rfl, a, _, _, _, rfl, rfl, SqT.of (sl _ _ ha), rfl, b, rfl, ⟨_, SqT.of (sl _ _ hb)⟩, for_tup (K := K) (a := b) (xs := ms)
    (fun i σ H' => (∃ o2 o3 o4, σ = [some (.ref a), some (.ref l), o2, o3, o4]) ∧ Same H H' ∧ ∃ ys, H' l = some (.lst ys) ∧ T3s H' ys (dbl (W.meets.take i)))
    ⟨⟨_, _, _, rfl⟩, sl, [], upd_same, .nil⟩ (fun i σ H' _ p => SqT.of (p.2.1 _ _ hb)) ?_ ?_⟩
  · rintro i x σ H' hi ⟨⟨o2, o3, o4, rfl⟩, sm, ys, hy, ty⟩
    obtain ⟨s, hs, hx⟩ := pr_get hm hi
    obtain ⟨c, rfl, hc⟩ := hx.ke (.of sm)
    have hil := (List.getElem?_eq_some_iff.mp hi).1
    refine ⟨c, _, rfl, SqT.of hc, rfl, _, _, rfl, _, _, rfl, _, _, rfl, rfl, ?_⟩
    refine ⟨_, rfl, .inl ⟨rfl, _, SqL.of hy⟩, _, rfl, _, rfl, _, rfl, three_le, fun p1 n1 => gen n1 fun H1 s1 e1 => ?_⟩
    refine ⟨_, rfl, _, rfl, _, rfl, three_le, fun p2 n2 => gen n2 fun H2 s2 e2 => ?_⟩
    refine ⟨two_le, fun p3 n3 => gen n3 fun H3 s3 e3 => ?_⟩
    have s13 := (s1.trans s2).trans s3
    have hy3 := s13 _ _ hy
    have dl := dbl_len (W.meets.take i)
    rw [List.length_take] at dl
    have yl := pr_len ty
    refine ⟨l, p3, ys, _, rfl, rfl, hy3, e3, z100 (by show ys.length + 2 ≤ _; omega), ⟨_, _, _, rfl⟩, same_past (sm.trans s13) nl, _, upd_same, ?_⟩
    rw [dbl_next hs]
    refine T3s.ke ?_ (Ke.lst hy3)
    refine pr_append (T3s.ke ty (.of s13)) (.cons ⟨p1, rfl, (s2.trans s3) _ _ e1⟩ (.cons ⟨p2, rfl, s3 _ _ e2⟩ .nil))
  · rintro σ H' ⟨⟨o2, o3, o4, rfl⟩, sm, ys, hy, ty⟩
    rw [hl, List.take_length] at ty
    refine ⟨_, rfl, l, ys, rfl, .inl (SqL.of hy), sort3i ty, fun zs p3 pm pw n3 => gen n3 fun H3 s3 e3 => ?_⟩
    obtain ⟨ss, t3, pm', so⟩ := sort3 ty pm pw
    refine q p3 H3 zs ss (sm.free n3) (sm.trans s3) e3 (T3s.ke t3 (.of s3)) (fun s => ?_) so (by rw [pm'.length_eq, dbl_len])
    rw [pm'.mem_iff, mem_dbl]
    exact Iff.rfl
/-! ### turned_list, turned_walk -/
def sp_turned_list : Sp := fun vs H Q _ => ∃ (p : Addr) (c : List (Option Int)), vs = [.ref p] ∧ OL H p c ∧ c.length ≤ 1000 ∧ ∀ p' H', H p' = none → Same H H' → OL H' p' (c.map neg) → Q (.ref p') H'
theorem sc_turned_list : FnScope ["moments", "moment"] ["moments"] (defScope s_turned_list) := ⟨rfl, rfl, rfl, by decide +kernel, rfl, by decide +kernel, by decide +kernel⟩
theorem ok_turned_list (hh : Here K mg "turned_list" s_turned_list) (T : Tp K mg) (F_turned_moment : Fn P w K mg base CX0 1 "turned_moment" ["moment"] sp_turned_moment) : Fn P w K mg base CX0 2 "turned_list" ["moments"] sp_turned_list := by
  refine fn_mk hh sc_turned_list (fun vs H Q E h => ?_) (fun _ _ _ _ _ _ us hl => match us, hl with | [_], _ => rfl) (fun f cdv A outer s H vs Q E hr h => ?_)
  · obtain ⟨p, c, rfl, _⟩ := h
    rfl
  obtain ⟨p, c, rfl, hc, hlt, q⟩ := h
  refine ⟨_, (pss_one (ps_ret (pe_lc (own := [("moment", 1)]) (g := gName 1) (tt := tYes) (te := (tCall sp_turned_moment [] E0 (tCons (tVar 1) tNil))) rfl sc_turned_list.nd (pi_list (pv 0)) (blkOk_by (own := [("moment", 1)]) (N := ["moments", "moment"]) (sc := defScope s_turned_list) (by decide +kernel)) (fun _ _ _ _ _ => (pg_name (i := 1) sc_turned_list.nd rfl (.inl rfl))) (fun _ _ _ _ _ => pts_nil) (fun _ _ _ _ _ => pe_fn F_turned_moment (hr.mono (by decide)) (by rfl) (pa_cons (pv 1) pa_nil))))), ?_⟩
  refine ⟨_, rfl, p, rfl, ⟨_, SqL.of hc⟩, fun D nD => ?_⟩
  refine lcL (R0 := fun _ x o => x = oV o) (R := fun _ x o => x = oV o) (ms := c) kV0 (fun _ => true) neg hc eq_pr (by omega) nD (fun x r H1 k k0 sm hx hr hk hk0 => ?_) fun H1 ys s1 e1 t1 => ?_
  · subst hx
    refine ⟨rfl, yesT ⟨_, rfl, r, rfl, hk rfl _ H1 (Same.refl _) rfl⟩⟩
  · rw [filter_yes] at t1
    refine q D H1 nD s1 ?_
    show H1 D = some (.lst ((c.map neg).map oV))
    rw [e1, pr_eq t1]
theorem back_eq : (fun s : Step => ((0 - s.1, s.2.2, s.2.1) : Step)) = back := by
  funext s
  show (0 - s.1, s.2.2, s.2.1) = (-s.1, s.2.2, s.2.1)
  rw [Int.zero_sub]
def sp_turned_walk : Sp := fun vs H Q _ => ∃ (x : V) (ss : List Step), vs = [x] ∧ TupOfs H x ss ∧ ss.length ≤ 1000 ∧ ∀ v' H', Same H H' → TupOfs H' v' (ss.reverse.map back) → Q v' H'
theorem sc_turned_walk : FnScope ["walk", "moment", "begin", "to"] ["walk"] (defScope s_turned_walk) := ⟨rfl, rfl, rfl, by decide +kernel, rfl, by decide +kernel, by decide +kernel⟩
theorem ok_turned_walk (hh : Here K mg "turned_walk" s_turned_walk) (T : Tp K mg)  : Fn P w K mg base CX0 1 "turned_walk" ["walk"] sp_turned_walk := by
  refine fn_mk hh sc_turned_walk (fun vs H Q E h => ?_) (fun _ _ _ _ _ _ us hl => match us, hl with | [_], _ => rfl) (fun f cdv A outer s H vs Q E hr h => ?_)
  · obtain ⟨x, ss, rfl, _⟩ := h
    rfl
  obtain ⟨x, ss, rfl, ⟨b, xs, rfl, hb, hm⟩, hlt, q⟩ := h
  refine ⟨_, (pss_one (ps_ret (pe_callTy call_tuple_of (by rfl) T.tuple (by decide +kernel) (pa_cons (pe_lc (own := [("moment", 1), ("begin", 2), ("to", 3)]) (g := gTup K 3 (gCons (gName 1) (gCons (gName 2) (gCons (gName 3) gNil)))) (tt := tYes) (te := (tTup (tCons (tOp (rI0 fun i j => .int (i - j)) (tC (.int 0)) (tVar 1)) (tCons (tVar 3) (tCons (tVar 2) tNil))))) rfl sc_turned_walk.nd (pi_tup (pe_revT (pv 0))) (blkOk_by (own := [("moment", 1), ("begin", 2), ("to", 3)]) (N := ["walk", "moment", "begin", "to"]) (sc := defScope s_turned_walk) (by decide +kernel)) (fun _ _ _ _ _ => (pg_tup rfl (pgs_cons (pg_name (i := 1) sc_turned_walk.nd rfl (.inl rfl)) (pgs_cons (pg_name (i := 2) sc_turned_walk.nd rfl (.inl rfl)) (pgs_cons (pg_name (i := 3) sc_turned_walk.nd rfl (.inl rfl)) pgs_nil))))) (fun _ _ _ _ _ => pts_nil) (fun _ _ _ _ _ => pe_tup (pa_cons (pe_op op_sub pe_int (pv 1)) (pa_cons (pv 3) (pa_cons (pv 2) pa_nil))))) pa_nil)))), ?_⟩
  refine ⟨_, rfl, b, xs, rfl, SqT.of hb, fun p1 n1 => gen n1 fun H1 s1 e1 => ?_⟩
  refine ⟨p1, rfl, ⟨_, SqT.of e1⟩, fun D nD => ?_⟩
  refine lcT (R0 := T3) (R := T3) (β := Step) kT3 (fun _ => true) (fun s => (0 - s.1, s.2.2, s.2.1)) e1 (pr_rev (T3s.ke hm (.of s1))) (by rw [List.length_reverse]; omega) nD (fun x r H2 k k0 sm hx hr hk hk0 => ?_) fun H2 ys s2 e2 t2 => ?_
  · obtain ⟨c, rfl, hc⟩ := hx.ke (.of sm)
    refine ⟨c, _, rfl, SqT.of hc, rfl, _, _, rfl, _, _, rfl, _, _, rfl, rfl, rfl, yesT ?_⟩
    exact ⟨_, rfl, _, _, rfl, rfl, _, rfl, _, rfl, three_le, fun p2 n2 => gen n2 fun H2 s2 e2 => hk rfl _ H2 s2 ⟨p2, rfl, e2⟩⟩
  · rw [filter_yes, back_eq] at t2
    refine ⟨D, ys, rfl, .inl ⟨SqL.of e2, fun p4 n4 => gen n4 fun H4 s4 e4 => ?_⟩⟩
    exact q _ H4 ((s1.trans s2).trans s4) ⟨p4, ys, rfl, e4, T3s.ke t2 (.of s4)⟩
/-! ### walk_right, of a right walk -/
def sp_walk_right : Sp := fun vs H Q _ => ∃ (x y : V) (W : Web) (rest : Int) (ss : List Step), vs = [x, .int rest, y] ∧ WebAt H x W ∧ TupOfs H y ss ∧ 1 ≤ ss.length ∧ ss.length ≤ 1000 ∧
  (∀ s ∈ ss, s.2.1 ≠ s.2.2 ∧ (s.1, min s.2.1 s.2.2, max s.2.1 s.2.2) ∈ W.meets) ∧ Ch rest ss ∧ ∀ H', Same H H' → Q (.bl true) H'
theorem all_true (l : List Step) : ((l.map fun _ => true).all id) = true := by
  rw [List.all_eq_true]
  intro x hx
  obtain ⟨_, _, e⟩ := List.mem_map.mp hx
  rw [← e]
  rfl
theorem all_rep (n : Nat) : ((List.replicate n true).all id) = true := by
  rw [List.all_eq_true]
  intro x hx
  rw [List.eq_of_mem_replicate hx]
  rfl
theorem sc_walk_right : FnScope ["web", "rest", "walk", "step", "behind"] ["web", "rest", "walk"] (defScope s_walk_right) := ⟨rfl, rfl, rfl, by decide +kernel, rfl, by decide +kernel, by decide +kernel⟩
theorem ok_walk_right (hh : Here K mg "walk_right" s_walk_right) (T : Tp K mg) (F_goes_on : Fn P w K mg base CX0 1 "goes_on" ["rest", "step", "behind"] sp_goes_on) (F_is_step : Fn P w K mg base CX0 2 "is_step" ["web", "step"] sp_is_step) : Fn P w K mg base CX0 3 "walk_right" ["web", "rest", "walk"] sp_walk_right := by
  refine fn_mk hh sc_walk_right (fun vs H Q E h => ?_) (fun _ _ _ _ _ _ us hl => match us, hl with | [_, _, _], _ => rfl) (fun f cdv A outer s H vs Q E hr h => ?_)
  · obtain ⟨x, y, W, rest, ss, rfl, _⟩ := h
    rfl
  obtain ⟨x, y, W, rest, ss, rfl, hW, ⟨b, xs, rfl, hb, hm⟩, hl1, hlt, hst, hch, q⟩ := h
  have hl : xs.length = ss.length := pr_len hm
  refine ⟨_, (pss_cons (ps_if (pt_not (pt_val (pe_callB (cr_all rfl) (by rfl) T.all (by decide +kernel) (pa_cons (pe_lc (own := [("step", 3)]) (g := gName 3) (tt := tYes) (te := (tCall sp_is_step [] E0 (tCons (tVar 0) (tCons (tVar 3) tNil)))) rfl sc_walk_right.nd (pi_tup (pv 2)) (blkOk_by (own := [("step", 3)]) (N := ["web", "rest", "walk", "step", "behind"]) (sc := defScope s_walk_right) (by decide +kernel)) (fun _ _ _ _ _ => (pg_name (i := 3) sc_walk_right.nd rfl (.inl rfl))) (fun _ _ _ _ _ => pts_nil) (fun _ _ _ _ _ => pe_fn F_is_step (hr.mono (by decide)) (by rfl) (pa_cons (pv 0) (pa_cons (pv 3) pa_nil)))) pa_nil))))
        (pss_one (ps_ret pe_bl))
        pss_nil)
      (pss_one (ps_ret (pe_callB (cr_all rfl) (by rfl) T.all (by decide +kernel) (pa_cons (pe_lc (own := [("step", 3), ("behind", 4)]) (g := gTup K 2 (gCons (gName 3) (gCons (gName 4) gNil))) (tt := tYes) (te := (tCall sp_goes_on [] E0 (tCons (tVar 1) (tCons (tVar 3) (tCons (tVar 4) tNil))))) rfl sc_walk_right.nd (RZ.pi_zipA (by rfl) T.zip (pa_cons (pv 2) (pa_cons (pe_slice sl_tupA (pv 2) (po_some pe_int) po_none) pa_nil))) (blkOk_by (own := [("step", 3), ("behind", 4)]) (N := ["web", "rest", "walk", "step", "behind"]) (sc := defScope s_walk_right) (by decide +kernel)) (fun _ _ _ _ _ => (pg_tup rfl (pgs_cons (pg_name (i := 3) sc_walk_right.nd rfl (.inl rfl)) (pgs_cons (pg_name (i := 4) sc_walk_right.nd rfl (.inl rfl)) pgs_nil)))) (fun _ _ _ _ _ => pts_nil) (fun _ _ _ _ _ => pe_fn F_goes_on (hr.mono (by decide)) (by rfl) (pa_cons (pv 1) (pa_cons (pv 3) (pa_cons (pv 4) pa_nil))))) pa_nil))))), ?_⟩
  refine ⟨_, rfl, b, rfl, ⟨_, SqT.of hb⟩, fun D nD => ?_⟩
  refine lcT (R0 := T3) (R := fun _ x o => x = V.bl o) (β := Bool) kV0 (fun _ => true) (fun _ => true) hb hm (by omega) nD (fun x r H1 k k0 sm hx hr hk hk0 => ?_) fun H1 ys s1 e1 t1 => ?_
  · refine ⟨rfl, yesT ⟨_, rfl, _, rfl, _, _, W, r, rfl, hW.ke (.of sm), hx.ke (.of sm), (hst r hr).1, (hst r hr).2, fun H2 s2 => hk rfl _ H2 s2 rfl⟩⟩
  · rw [filter_yes] at t1
    rw [pr_eq t1] at e1
    refine ⟨D, _, rfl, SqL.of e1, _, rfl, ?_⟩
    rw [all_true]
    refine iteF ?_
    refine ⟨_, rfl, _, rfl, 1, rfl, b, xs, rfl, SqT.of (s1 _ _ hb), fun e => ?_, fun _ p2 n2 => gen n2 fun H2 s2 e2 => ?_⟩
    · exfalso
      have := e.1
      rw [show HT.sIx xs.length 0 (some 1) = min 1 xs.length from HT.sIx_nat xs.length 0 1] at this
      omega
    have s12 := s1.trans s2
    refine ⟨b, p2, xs, _, rfl, .inr ⟨SqT.of (s12 _ _ hb), SqT.of e2, fun D2 nD2 => ?_⟩⟩
    have ecut : cutV xs (some 1) none = xs.drop 1 := by
      unfold cutV
      rw [show HT.sIx xs.length 0 (some 1) = min 1 xs.length from HT.sIx_nat xs.length 0 1, HT.sIx_none, Nat.min_eq_left (by omega)]
      exact List.take_of_length_le (by rw [List.length_drop]; exact Nat.le_refl _)
    rw [ecut] at e2
    refine lc_it (walk_zipT (xs := xs) (ys := xs.drop 1) (n := xs.length - 1) (by rw [List.length_drop]; omega)) (fun i H' => Same H2 H' ∧ H' D2 = some (.lst ((List.replicate i true).map V.bl)))
      ⟨same_new _ nD2, upd_same⟩ (fun i H' _ p => ⟨SqT.of (p.1 _ _ (s12 _ _ hb)), SqT.of (p.1 _ _ e2)⟩) (fun i v H3 H4 hi p y => ?_) fun H3 p => ?_
    · obtain ⟨Tp, x, z, rfl, nT, rfl, hx, hz⟩ := y
      have hx' : xs[i]? = some x := hx
      have hz' : (xs.drop 1)[i]? = some z := hz
      rw [List.getElem?_drop] at hz'
      obtain ⟨s, hs, tx⟩ := pr_get hm hx'
      obtain ⟨r, hr', tz⟩ := pr_get hm hz'
      have sT := same_new (.tup [x, z]) nT
      have s24 := (s12.trans p.1).trans sT
      refine ⟨Tp, [x, z], rfl, SqT.of upd_same, rfl, _, _, rfl, _, _, rfl, rfl, rfl, yesT ?_⟩
      have g := hch i s r hs (by rw [Nat.add_comm] at hr'; exact hr')
      refine ⟨_, rfl, _, rfl, _, rfl, rest, x, z, s, r, rfl, tx.ke (.of s24), tz.ke (.of s24), ?_⟩
      refine ⟨_, sT _ _ p.2, z100' (by rw [List.length_map, List.length_replicate]; omega), same_past (p.1.trans sT) nD2, ?_⟩
      rw [upd_same, decide_eq_true (show s.2.2 = r.2.1 ∧ s.1 + rest ≤ r.1 from g), List.replicate_succ', List.map_append]
      rfl
    · refine ⟨D2, _, rfl, SqL.of p.2, ?_⟩
      rw [all_rep]
      exact q H3 (s12.trans p.1)
end
end Wm
end
section
set_option Elab.async false
set_option linter.all false
set_option maxRecDepth 100000
set_option maxHeartbeats 4000000
namespace Wm
open PySem PySem.Spec PyProof.Rows L2
section
variable {P : Program} {w : World} {K : PySem.W.Frag} {mg : Str → Option Value} {base : Heap}
/-! ### soonest_tree -/
theorem rep_none (n : Nat) : (List.replicate n ([V.non] : List V)).flatten = (List.replicate n (none : Option Int)).map oV := by
  induction n with
  | zero => rfl
  | succ n ih =>
    rw [List.replicate_succ, List.flatten_cons, ih, List.replicate_succ, List.map_cons]
    rfl
theorem rep_O3 {H : Hp} (n : Nat) : O3s H ((List.replicate n (none : Option Int)).map oV) (List.replicate n none) := by
  induction n with
  | zero => exact .nil
  | succ n ih => exact .cons rfl ih
theorem oV_set (c : List (Option Int)) (i : Nat) (o : Option Int) : (c.map oV).set i (oV o) = (c.set i o).map oV := by rw [List.map_set]
theorem ixN_nat {n i : Nat} (h : i < n) : ixN n (i : Int) = some i := by
  unfold ixN
  rw [if_pos (by omega), if_pos (by omega), Int.toNat_natCast]
/-- clocks, tree and steps as they stand -/
structure LoopH (H : Hp) (cl tl sl : Addr) (ys : List V) (ss : List Step) (c : List (Option Int)) (tr : List (Option Step)) (H' : Hp) : Prop where
  fsm : Same H H'
  fcs : OL H' cl c
  fts : ∃ xs, H' tl = some (.lst xs) ∧ O3s H' xs tr
  fsl : H' sl = some (.lst ys)
  fst : T3s H' ys ss
  ncl : H cl = none
  ntl : H tl = none
  ne1 : cl ≠ tl
  ne2 : cl ≠ sl
  ne3 : tl ≠ sl
theorem LoopH.put {H : Hp} {cl tl sl : Addr} {ys : List V} {ss : List Step} {c : List (Option Int)} {tr : List (Option Step)} {H' : Hp} (L : LoopH H cl tl sl ys ss c tr H') {x : V} {s : Step} (hx : T3 H' x s) {xs : List V} (hxs : H' tl = some (.lst xs)) (i : Nat) :
    LoopH H cl tl sl ys ss (c.set i (some s.1)) (tr.set i (some s)) (upd (upd H' cl (.lst ((c.map oV).set i (.int s.1)))) tl (.lst (xs.set i x))) := by
  obtain ⟨xs', h1, h2⟩ := L.fts
  rw [hxs] at h1
  cases h1
  have k1 : Ke H' (upd H' cl (.lst ((c.map oV).set i (.int s.1)))) := Ke.lst L.fcs
  have ht1 : (upd H' cl (.lst ((c.map oV).set i (.int s.1)))) tl = some (.lst xs) := by
    rw [upd_ne L.ne1.symm]
    exact hxs
  have k2 := k1.trans (Ke.lst (ys := xs.set i x) ht1)
  refine ⟨same_past (same_past L.fsm L.ncl) L.ntl, ?_, ⟨_, upd_same, ?_⟩, ?_, T3s.ke L.fst k2, L.ncl, L.ntl, L.ne1, L.ne2, L.ne3⟩
  · show _ = some (HO.lst ((c.set i (some s.1)).map oV))
    rw [upd_ne L.ne1, upd_same, ← oV_set]
    rfl
  · exact pr_set (O3s.ke h2 k2) (show O3 _ x (some s) from hx.ke k2) i
  · rw [upd_ne L.ne3.symm, upd_ne L.ne2.symm]
    exact L.fsl
def sp_soonest_tree : Sp := fun vs H Q _ => ∃ (x : V) (W : Web) (rest first : Int) (start : Nat), vs = [x, .int rest, nV start, .int first] ∧ WebAt H x W ∧ WebOk W ∧ 0 ≤ rest ∧ start < W.many ∧
  ∀ p H' cp tp c xs tr, Same H H' → H cp = none → H' p = some (.tup [.ref cp, .ref tp]) → OL H' cp c → H' tp = some (.lst xs) → O3s H' xs tr → Soon (St W) W.many rest start first c → TreeOk (St W) W.many rest start first c tr → Q (.ref p) H'
theorem sc_soonest_tree : FnScope ["web", "rest", "start", "first", "clocks", "tree", "steps", "changed", "step"] ["web", "rest", "start", "first"] (defScope s_soonest_tree) := ⟨rfl, rfl, rfl, by decide +kernel, rfl, by decide +kernel, by decide +kernel⟩
theorem ok_soonest_tree (hh : Here K mg "soonest_tree" s_soonest_tree) (T : Tp K mg) (F_steps_of : Fn P w K mg base CX0 1 "steps_of" ["web"] sp_steps_of) (F_is_sooner : Fn P w K mg base CX0 1 "is_sooner" ["clocks", "start", "step"] sp_is_sooner) (F_can_go : Fn P w K mg base CX0 1 "can_go" ["clocks", "rest", "start", "first", "step"] sp_can_go) : Fn P w K mg base CX0 2 "soonest_tree" ["web", "rest", "start", "first"] sp_soonest_tree := by
  refine fn_mk hh sc_soonest_tree (fun vs H Q E h => ?_) (fun _ _ _ _ _ _ us hl => match us, hl with | [_, _, _, _], _ => rfl) (fun f cdv A outer s H vs Q E hr h => ?_)
  · obtain ⟨x, W, rest, first, start, rfl, _⟩ := h
    rfl
  obtain ⟨x, W, rest, first, start, rfl, hW, ok, h0, hst, q⟩ := h
  obtain ⟨a, z, rfl, ha, _⟩ := id hW
  have hm7 := ok.le
  have hS : ∀ s, St W s → s.2.1 ≠ s.2.2 ∧ s.2.1 < W.many ∧ s.2.2 < W.many := fun s h => ok.st h
  refine ⟨_, (pss_cons (ps_set (i := 4) sc_soonest_tree.nd rfl (.inl rfl) (pe_op op_rep (pe_lst (pa_cons pe_non pa_nil)) (pe_ix ix_tup (pv 0) pe_int (fun _ _ => rfl))))
      (pss_cons (ps_asg (pv 3) (pg_sub (pv 4) (pv 2) set_list))
      (pss_cons (ps_set (i := 5) sc_soonest_tree.nd rfl (.inl rfl) (pe_op op_rep (pe_lst (pa_cons pe_non pa_nil)) (pe_ix ix_tup (pv 0) pe_int (fun _ _ => rfl))))
      (pss_cons (ps_set (i := 6) sc_soonest_tree.nd rfl (.inl rfl) (pe_fn F_steps_of (hr.mono (by decide)) (by rfl) (pa_cons (pv 0) pa_nil)))
      (pss_cons (ps_set (i := 7) sc_soonest_tree.nd rfl (.inl rfl) pe_bl)
      (pss_cons (ps_while PassesOwn.never (pt_val (pv 7))
        (pss_cons (ps_set (i := 7) sc_soonest_tree.nd rfl (.inl rfl) pe_bl)
        (pss_one (ps_for PassesOwn.never rfl (pi_list (pv 6)) (pg_name (i := 8) sc_soonest_tree.nd rfl (.inl rfl))
          (pss_one (ps_if (PW.pt (pw_and (pt_val (pe_fn F_is_sooner (hr.mono (by decide)) (by rfl) (pa_cons (pv 4) (pa_cons (pv 2) (pa_cons (pv 8) pa_nil))))) (pw_and1 (pt_val (pe_fn F_can_go (hr.mono (by decide)) (by rfl) (pa_cons (pv 4) (pa_cons (pv 1) (pa_cons (pv 2) (pa_cons (pv 3) (pa_cons (pv 8) pa_nil))))))))))
            (pss_cons (ps_asg (pe_ix ix_tup (pv 8) pe_int (fun _ _ => rfl)) (pg_sub (pv 4) (pe_ix ix_tup (pv 8) pe_int (fun _ _ => rfl)) set_list))
            (pss_cons (ps_asg (pv 8) (pg_sub (pv 5) (pe_ix ix_tup (pv 8) pe_int (fun _ _ => rfl)) set_list))
            (pss_one (ps_set (i := 7) sc_soonest_tree.nd rfl (.inl rfl) (pe_cmpR op_eq (pv 1) pe_int (nomark _))))))
            pss_nil))))))
      (pss_one (ps_ret (pe_tup (pa_cons (pv 4) (pa_cons (pv 5) pa_nil))))))))))), ?_⟩
  refine ⟨(by show 1 ≤ sizeLine; decide), fun p1 n1 => gen n1 fun H1 s1 e1 => ?_⟩
  refine ⟨_, rfl, a, _, _, _, rfl, rfl, SqT.of (s1 _ _ ha), rfl, ?_⟩
  refine ⟨p1, _, _, rfl, rfl, e1, by omega, by omega, z100 (by show 1 * _ ≤ _; omega), fun cl n2 => gen n2 fun H2 s2 e2 => ?_⟩
  rw [Int.toNat_natCast, rep_none] at e2
  refine ⟨_, rfl, _, rfl, _, rfl, cl, _, _, start, rfl, rfl, e2, ixN_nat (by rw [List.length_map, List.length_replicate]; exact hst), ?_⟩
  have ncl : H cl = none := s1.free n2
  have s3 : Same H (upd H2 cl (HO.lst (((List.replicate W.many (none : Option Int)).map oV).set start (.int first)))) := same_past (s1.trans s2) ncl
  have e3 : OL (upd H2 cl (HO.lst (((List.replicate W.many (none : Option Int)).map oV).set start (.int first)))) cl ((List.replicate W.many none).set start (some first)) := by
    show _ = some (HO.lst (((List.replicate W.many none).set start (some first)).map oV))
    rw [upd_same, ← oV_set]
    rfl
  generalize upd H2 cl (HO.lst (((List.replicate W.many (none : Option Int)).map oV).set start (.int first))) = H3 at s3 e3 ⊢
  refine ⟨(by show 1 ≤ sizeLine; decide), fun p4 n4 => gen n4 fun H4 s4 e4 => ?_⟩
  refine ⟨_, rfl, a, _, _, _, rfl, rfl, SqT.of ((s3.trans s4) _ _ ha), rfl, ?_⟩
  refine ⟨p4, _, _, rfl, rfl, e4, by omega, by omega, z100 (by show 1 * _ ≤ _; omega), fun tl n5 => gen n5 fun H5 s5 e5 => ?_⟩
  rw [Int.toNat_natCast, rep_none] at e5
  have s35 := s4.trans s5
  have s05 := s3.trans s35
  have ntl : H tl = none := (s3.trans s4).free n5
  refine ⟨_, rfl, _, W, rfl, hW.ke (.of s05), by have := ok.few; omega, fun sl H6 ys ss n6 s6 e6 t6 mem so _ => ?_⟩
  have ne1 : cl ≠ tl := ne_of_none (s4 _ _ e3) n5
  have ne2 : cl ≠ sl := ne_of_none (s35 _ _ e3) n6
  have ne3 : tl ≠ sl := ne_of_none e5 n6
  have L0 : LoopH H cl tl sl ys ss ((List.replicate W.many none).set start (some first)) (List.replicate W.many none) H6 := ⟨s05.trans s6, (s35.trans s6) _ _ e3, ⟨_, s6 _ _ e5, rep_O3 _⟩, e6, t6, ncl, ntl, ne1, ne2, ne3⟩
  have hss : ∀ s ∈ ss, St W s := fun s hs => (mem s).mp hs
  refine ⟨fun m σ H' => ∃ c tr ch os, σ = [some (.ref a), some (.int rest), some (nV start), some (.int first), some (.ref cl), some (.ref tl), some (.ref sl), some (.bl ch), os] ∧ LoopH H cl tl sl ys ss c tr H' ∧ (∃ rk N, TInv (St W) W.many rest start first c tr rk N) ∧
    (ch = true → m = mu ss start c + 1) ∧ (ch = false → m = 0 ∧ ∀ s ∈ ss, shut c rest start first s), ⟨_, _, _, true, none, rfl, L0, ⟨_, _, TInv.new hst⟩, fun _ => rfl, fun e => by cases e⟩, ?_⟩
  rintro m σ H' ⟨c, tr, ch, os, rfl, L, I, hc1, hc0⟩
  refine ⟨_, rfl, ch, rfl, ?_⟩
  cases ch with
  | true =>
    refine iteT ⟨_, fun _ _ h => h, ?_⟩
    refine ⟨_, rfl, sl, rfl, ⟨_, SqL.of L.fsl⟩, for_list (K := K) (a := sl) (xs := ys) (fun i σ H' => ∃ c' tr' ch' os', σ = [some (.ref a), some (.int rest), some (nV start), some (.int first), some (.ref cl), some (.ref tl), some (.ref sl), some (.bl ch'), os'] ∧
      LoopH H cl tl sl ys ss c' tr' H' ∧ PInv (St W) W.many rest start first ss c i c' tr' ch') ⟨c, tr, false, os, rfl, L, PInv.begin I⟩ (fun i σ H' _ p => by
        obtain ⟨_, _, _, _, _, L', _⟩ := p
        exact SqL.of L'.fsl) ?_ ?_⟩
    · rintro i x σ H' hi ⟨c', tr', ch', os', rfl, L', Pi⟩
      obtain ⟨s, hs, hx⟩ := pr_get L'.fst hi
      have hsS := hss s (List.mem_of_getElem? hs)
      obtain ⟨_, l1, l2⟩ := hS s hsS
      have hcl : c'.length = W.many := by
        obtain ⟨_, _, I'⟩ := Pi.inv
        exact I'.cl
      have htl : tr'.length = W.many := by
        obtain ⟨_, _, I'⟩ := Pi.inv
        exact I'.tl
      obtain ⟨b, rfl, hb⟩ := id hx
      have skip : shut c' rest start first s → ∃ c'' tr'' ch'' os'', [some (.ref a), some (.int rest), some (nV start), some (.int first), some (.ref cl), some (.ref tl), some (.ref sl), some (.bl ch'), some (.ref b)] = [some (.ref a), some (.int rest), some (nV start), some (.int first), some (.ref cl), some (.ref tl), some (.ref sl), some (.bl ch''), os''] ∧
          LoopH H cl tl sl ys ss c'' tr'' H' ∧ PInv (St W) W.many rest start first ss c (i + 1) c'' tr'' ch'' := fun hsh => ⟨c', tr', ch', some (.ref b), rfl, L', Pi.skip hs hsh⟩
      refine ⟨_, rfl, _, rfl, _, rfl, cl, c', start, _, s, rfl, L'.fcs, hx, by omega, _, rfl, ?_⟩
      cases h1 : sooner c' start s with
      | false => exact iteF (iteF (skip fun q _ => by rw [h1] at q; cases q))
      | true =>
        refine iteT ⟨_, rfl, _, rfl, _, rfl, _, rfl, _, rfl, cl, c', rest, first, start, _, s, rfl, L'.fcs, hx, by omega, _, rfl, ?_⟩
        cases h2 : canGo c' rest start first s with
        | false => exact iteF (skip fun _ q => by rw [h2] at q; cases q)
        | true =>
          obtain ⟨xs, hxs, txs⟩ := L'.fts
          have hxl : xs.length = W.many := (pr_len txs).trans htl
          refine iteT ⟨_, rfl, b, _, _, _, rfl, rfl, SqT.of hb, rfl, _, rfl, _, rfl, b, _, _, _, rfl, rfl, SqT.of hb, rfl, ?_⟩
          refine ⟨cl, _, _, s.2.2, rfl, rfl, L'.fcs, ixN_nat (by rw [List.length_map]; omega), ?_⟩
          have k1 : Ke H' (upd H' cl (.lst ((c'.map oV).set s.2.2 (.int s.1)))) := Ke.lst L'.fcs
          have ht1 : (upd H' cl (.lst ((c'.map oV).set s.2.2 (.int s.1)))) tl = some (.lst xs) := by
            rw [upd_ne ne1.symm]
            exact hxs
          refine ⟨_, rfl, _, rfl, _, rfl, b, _, _, _, rfl, rfl, SqT.of (k1 _ _ hb), rfl, tl, _, _, s.2.2, rfl, rfl, ht1, ixN_nat (by omega), ?_⟩
          refine ⟨_, rfl, rfl, ?_⟩
          have ed : decide (V.int rest = V.int 0) = decide (rest = 0) := by
            rw [Bool.eq_iff_iff]
            simp
          refine ⟨_, _, decide (V.int rest = V.int 0), _, rfl, L'.put hx hxs s.2.2, ?_⟩
          rw [ed]
          exact Pi.put hS h0 hss so hs h1 h2
    · rintro σ H' ⟨c', tr', ch', os', rfl, L', Pi⟩
      rw [pr_len t6] at Pi
      cases ch' with
      | true =>
        have := Pi.less rfl
        have := hc1 rfl
        exact ⟨mu ss start c' + 1, by omega, c', tr', true, os', rfl, L', Pi.inv, fun _ => rfl, fun e => (by cases e)⟩
      | false => exact ⟨0, by have := hc1 rfl; omega, c', tr', false, os', rfl, L', Pi.inv, fun e => (by cases e), fun _ => ⟨rfl, Pi.done rfl⟩⟩
  | false =>
    refine iteF ?_
    obtain ⟨rk, N, I⟩ := I
    have hsh := (hc0 rfl).2
    obtain ⟨xs, hxs, txs⟩ := L.fts
    refine ⟨_, rfl, _, rfl, two_le, fun p7 n7 => gen n7 fun H7 s7 e7 => ?_⟩
    exact q p7 H7 cl tl c xs tr (L.fsm.trans s7) ncl e7 (s7 _ _ L.fcs) (s7 _ _ hxs) (O3s.ke txs (.of s7)) (soon_of hS I h0 fun s hs => hsh s ((mem s).mpr hs)) (tree_of hS I)
/-! ### soonest_from -/
def sp_soonest_from : Sp := fun vs H Q _ => ∃ (x : V) (W : Web) (rest first : Int) (start : Nat), vs = [x, .int rest, nV start, .int first] ∧ WebAt H x W ∧ WebOk W ∧ 0 ≤ rest ∧ start < W.many ∧
  ∀ p H' c, H p = none → Same H H' → OL H' p c → Soon (St W) W.many rest start first c → Q (.ref p) H'
theorem sc_soonest_from : FnScope ["web", "rest", "start", "first"] ["web", "rest", "start", "first"] (defScope s_soonest_from) := ⟨rfl, rfl, rfl, by decide +kernel, rfl, by decide +kernel, by decide +kernel⟩
theorem ok_soonest_from (hh : Here K mg "soonest_from" s_soonest_from) (T : Tp K mg) (F_soonest_tree : Fn P w K mg base CX0 2 "soonest_tree" ["web", "rest", "start", "first"] sp_soonest_tree) : Fn P w K mg base CX0 3 "soonest_from" ["web", "rest", "start", "first"] sp_soonest_from := by
  refine fn_mk hh sc_soonest_from (fun vs H Q E h => ?_) (fun _ _ _ _ _ _ us hl => match us, hl with | [_, _, _, _], _ => rfl) (fun f cdv A outer s H vs Q E hr h => ?_)
  · obtain ⟨x, W, rest, first, start, rfl, _⟩ := h
    rfl
  obtain ⟨x, W, rest, first, start, rfl, hW, ok, h0, hst, q⟩ := h
  refine ⟨_, (pss_one (ps_ret (pe_ix ix_tup (pe_fn F_soonest_tree (hr.mono (by decide)) (by rfl) (pa_cons (pv 0) (pa_cons (pv 1) (pa_cons (pv 2) (pa_cons (pv 3) pa_nil))))) pe_int (fun _ _ => rfl)))), ?_⟩
  refine ⟨_, rfl, _, rfl, _, rfl, _, rfl, _, W, rest, first, start, rfl, hW, ok, h0, hst, fun p H' cp tp c xs tr sm ncp e1 e2 _ _ so _ => ?_⟩
  exact ⟨p, _, _, _, rfl, rfl, SqT.of e1, rfl, q cp H' c ncp sm e2 so⟩
/-! ### walk_along -/
def sp_walk_along : Sp := fun vs H Q _ => ∃ (ta : Addr) (xs : List V) (tr : List (Option Step)) (start goal : Nat) (ws : List Step), vs = [.ref ta, nV start, nV goal] ∧ H ta = some (.lst xs) ∧ O3s H xs tr ∧ Along tr start goal ws ∧ ws.length ≤ 1000 ∧
  ∀ v' H', Same H H' → TupOfs H' v' ws → Q v' H'
theorem sc_walk_along : FnScope ["tree", "start", "goal", "walk", "here"] ["tree", "start", "goal"] (defScope s_walk_along) := ⟨rfl, rfl, rfl, by decide +kernel, rfl, by decide +kernel, by decide +kernel⟩
theorem ok_walk_along (hh : Here K mg "walk_along" s_walk_along) (T : Tp K mg)  : Fn P w K mg base CX0 1 "walk_along" ["tree", "start", "goal"] sp_walk_along := by
  refine fn_mk hh sc_walk_along (fun vs H Q E h => ?_) (fun _ _ _ _ _ _ us hl => match us, hl with | [_, _, _], _ => rfl) (fun f cdv A outer s H vs Q E hr h => ?_)
  · obtain ⟨ta, xs, tr, start, goal, ws, rfl, _⟩ := h
    rfl
  obtain ⟨ta, xs, tr, start, goal, ws, rfl, hta, htr, hal, hlt, q⟩ := h
  refine ⟨_, (pss_cons (ps_set (i := 3) sc_walk_along.nd rfl (.inl rfl) (pe_lst pa_nil))
      (pss_cons (ps_set (i := 4) sc_walk_along.nd rfl (.inl rfl) (pv 2))
      (pss_cons (ps_while PassesOwn.never (pt_cmpR op_ne (pv 4) (pv 1) (nomark _))
        (pss_cons (ps_expr (pe_bm PySem.F.plainAttrs_list PySem.F.slot_list_append PySem.F.type_list_append mt_append (pv 3) (pa_cons (pe_ix ix_list (pv 0) (pv 4) (fun _ _ => rfl)) pa_nil)))
        (pss_one (ps_set (i := 4) sc_walk_along.nd rfl (.inl rfl) (pe_ix ix_tup (pe_ix ix_list (pv 0) (pv 4) (fun _ _ => rfl)) pe_int (fun _ _ => rfl))))))
      (pss_one (ps_ret (pe_callTy call_tuple_of (by rfl) T.tuple (by decide +kernel) (pa_cons (pe_revL (pv 3)) pa_nil))))))), ?_⟩
  refine ⟨Nat.zero_le _, fun l nl => ?_⟩
  refine ⟨_, rfl, ?_⟩
  refine ⟨fun m σ H' => ∃ here w' ys col, σ = [some (.ref ta), some (nV start), some (nV goal), some (.ref l), some (nV here)] ∧ Same H H' ∧ H' l = some (.lst ys) ∧ T3s H' ys col ∧ Along tr start here w' ∧ ws = w' ++ col.reverse ∧ m = w'.length,
    ⟨_, goal, ws, [], [], rfl, same_new _ nl, upd_same, .nil, hal, by simp, rfl⟩, ?_⟩
  rintro m σ H' ⟨here, w', ys, col, rfl, sm, hy, ty, al, ew, rfl⟩
  have nlt : l ≠ ta := (ne_of_none hta nl).symm
  refine ⟨_, rfl, _, rfl, rfl, _, rfl, ?_⟩
  cases al with
  | nil =>
    have ed : (!decide (V.int (start : Int) = V.int (start : Int))) = false := by simp
    rw [ed]
    refine iteF ?_
    refine ⟨_, rfl, l, ys, rfl, SqL.of hy, fun p1 n1 => gen n1 fun H1 s1 e1 => ?_⟩
    refine ⟨p1, _, rfl, .inl ⟨SqL.of e1, fun p2 n2 => gen n2 fun H2 s2 e2 => ?_⟩⟩
    refine q _ H2 ((sm.trans s1).trans s2) ⟨p2, _, rfl, e2, ?_⟩
    rw [ew, List.nil_append]
    exact pr_rev (T3s.ke ty (.of (s1.trans s2)))
  | @cons _ s w0 hne hat al =>
    have ed : (!decide (V.int (here : Int) = V.int (start : Int))) = true := by
      have : ¬ V.int (here : Int) = V.int (start : Int) := fun z => hne (by injection z with z; omega)
      rw [decide_eq_false this]
      rfl
    rw [ed]
    obtain ⟨x, hx, tx⟩ := pr_get' htr hat
    obtain ⟨b, rfl, hb⟩ := (show T3 H x s from tx).ke (.of sm)
    have hta' := sm _ _ hta
    have g : atI xs (here : Int) = some (V.ref b) := atI_nat hx
    have hlen : ys.length < 100000 := by
      rw [pr_len ty]
      have := congrArg List.length ew
      rw [List.length_append, List.length_reverse, List.length_append] at this
      omega
    refine iteT ⟨_, fun _ _ h => h, ?_⟩
    refine ⟨_, rfl, .inl ⟨rfl, _, SqL.of hy⟩, _, rfl, _, rfl, ta, _, _, _, rfl, rfl, SqL.of hta', g, l, ys, _, rfl, rfl, hy, z100' hlen, ?_⟩
    have k1 : Ke H' (upd H' l (.lst (ys ++ [V.ref b]))) := Ke.lst hy
    have hta2 : (upd H' l (.lst (ys ++ [V.ref b]))) ta = some (.lst xs) := by
      rw [upd_ne nlt.symm]
      exact hta'
    refine ⟨_, rfl, _, rfl, ta, _, _, _, rfl, rfl, SqL.of hta2, g, b, _, _, _, rfl, rfl, SqT.of (k1 _ _ hb), rfl, ?_⟩
    refine ⟨w0.length, by rw [List.length_append, List.length_singleton]; omega, s.2.1, w0, _, col ++ [s], rfl, same_past sm nl, upd_same, ?_, al, ?_, rfl⟩
    · exact pr_append (T3s.ke ty k1) (pr_one ⟨b, rfl, k1 _ _ hb⟩)
    · rw [ew, List.reverse_append, List.append_assoc]
      rfl
/-! ### soonest_walk -/
/-- the least coming -/
def Least (S : Step → Prop) (rest first : Int) (start v : Nat) (t : Int) : Prop := Comes S rest first start v t ∧ ∀ t', Comes S rest first start v t' → t ≤ t'
theorem Least.eq {S : Step → Prop} {rest first : Int} {start v : Nat} {t t' : Int} (h : Least S rest first start v t) (h' : Least S rest first start v t') : t = t' := by
  have := h.2 _ h'.1
  have := h'.2 _ h.1
  omega
theorem Soon.least {S : Step → Prop} {many : Nat} {rest first : Int} {start v : Nat} {c : List (Option Int)} {t : Int} (h : Soon S many rest start first c) (hv : v ≠ start) (e : c[v]? = some (some t)) : Least S rest first start v t := by
  obtain ⟨h1, _, h3⟩ := h
  have hm := (List.getElem?_eq_some_iff.mp e).1
  obtain ⟨o, ho, ha, hb⟩ := h3 v hv (by omega)
  rw [e] at ho
  cases ho
  refine ⟨ha t rfl, fun t' h => ?_⟩
  obtain ⟨t0, e0, l⟩ := hb t' h
  cases e0
  exact l
def sp_soonest_walk : Sp := fun vs H Q _ => ∃ (x : V) (W : Web) (rest first : Int) (start goal : Nat) (tc : Int), vs = [x, .int rest, nV start, nV goal, .int first] ∧ WebAt H x W ∧ WebOk W ∧ 0 ≤ rest ∧ start < W.many ∧ goal < W.many ∧ goal ≠ start ∧ Comes (St W) rest first start goal tc ∧
  ∀ v' H' ws t0 t1, Same H H' → TupOfs H' v' ws → Walk (St W) rest start goal t0 t1 ws → first ≤ t0 → Least (St W) rest first start goal t1 → ws.length ≤ 100 → Q v' H'
theorem sc_soonest_walk : FnScope ["web", "rest", "start", "goal", "first", "clocks", "tree"] ["web", "rest", "start", "goal", "first"] (defScope s_soonest_walk) := ⟨rfl, rfl, rfl, by decide +kernel, rfl, by decide +kernel, by decide +kernel⟩
theorem ok_soonest_walk (hh : Here K mg "soonest_walk" s_soonest_walk) (T : Tp K mg) (F_soonest_tree : Fn P w K mg base CX0 2 "soonest_tree" ["web", "rest", "start", "first"] sp_soonest_tree) (F_walk_along : Fn P w K mg base CX0 1 "walk_along" ["tree", "start", "goal"] sp_walk_along) : Fn P w K mg base CX0 3 "soonest_walk" ["web", "rest", "start", "goal", "first"] sp_soonest_walk := by
  refine fn_mk hh sc_soonest_walk (fun vs H Q E h => ?_) (fun _ _ _ _ _ _ us hl => match us, hl with | [_, _, _, _, _], _ => rfl) (fun f cdv A outer s H vs Q E hr h => ?_)
  · obtain ⟨x, W, rest, first, start, goal, tc, rfl, _⟩ := h
    rfl
  obtain ⟨x, W, rest, first, start, goal, tc, rfl, hW, ok, h0, hst, hgo, hne, hco, q⟩ := h
  refine ⟨_, (pss_cons (ps_asg (pe_fn F_soonest_tree (hr.mono (by decide)) (by rfl) (pa_cons (pv 0) (pa_cons (pv 1) (pa_cons (pv 2) (pa_cons (pv 4) pa_nil))))) (pg_tup rfl (pgs_cons (pg_name (i := 5) sc_soonest_walk.nd rfl (.inl rfl)) (pgs_cons (pg_name (i := 6) sc_soonest_walk.nd rfl (.inl rfl)) pgs_nil))))
      (pss_cons (ps_if (pt_cmpR op_isN (pe_ix ix_list (pv 5) (pv 3) (fun _ _ => rfl)) pe_non (nomark _))
        (pss_one ps_never)
        pss_nil)
      (pss_one (ps_ret (pe_fn F_walk_along (hr.mono (by decide)) (by rfl) (pa_cons (pv 6) (pa_cons (pv 2) (pa_cons (pv 3) pa_nil)))))))), ?_⟩
  refine ⟨_, rfl, _, rfl, _, rfl, _, rfl, _, W, rest, first, start, rfl, hW, ok, h0, hst, fun p H' cp tp c xs tr sm ncp e1 e2 e3 e4 so to => ?_⟩
  refine ⟨p, _, rfl, SqT.of e1, rfl, _, _, rfl, _, _, rfl, rfl, ?_⟩
  obtain ⟨o, ho, hoa, hob⟩ := so.2.2 goal hne hgo
  obtain ⟨t1, rfl, _⟩ := hob tc hco
  obtain ⟨ws, t0, al, wk, hf, hl⟩ := to.2 goal t1 hne hgo ho
  refine ⟨_, rfl, _, rfl, cp, _, _, _, rfl, rfl, SqL.of e2, oGet ho, rfl, _, rfl, ?_⟩
  refine iteF ⟨_, rfl, _, rfl, _, rfl, tp, xs, tr, start, goal, ws, rfl, e3, e4, al, by have := ok.le; omega, fun v' H2 s2 tw => ?_⟩
  exact q v' H2 ws t0 t1 (sm.trans s2) tw wk hf (so.least hne ho) (by have := ok.le; omega)
end
end Wm
end
section
set_option Elab.async false
set_option linter.all false
set_option maxRecDepth 100000
set_option maxHeartbeats 4000000
namespace Wm
open PySem PySem.Spec PyProof.Rows L2
/-! ### the web turned about -/
theorem turned_st {W W' : Web} (h : W'.meets.Perm (W.meets.map fun s => (0 - s.1, s.2.1, s.2.2))) : St W' = StT W := by
  have key : ∀ t a b, ((t, a, b) : Step) ∈ W'.meets ↔ ((-t, a, b) : Step) ∈ W.meets := fun t a b => by
    rw [h.mem_iff, List.mem_map]
    constructor
    · rintro ⟨⟨t', a', b'⟩, hr, e⟩
      cases e
      rw [show -(0 - t') = t' by omega]
      exact hr
    · intro hr
      exact ⟨_, hr, by show ((0 - -t, a, b) : Step) = _; rw [show 0 - -t = t by omega]⟩
  funext s
  obtain ⟨t, a, b⟩ := s
  apply propext
  show (_ ∈ _ ∨ _ ∈ _) ↔ (_ ∈ _ ∨ _ ∈ _)
  rw [key, key]
theorem turned_ok {W W' : Web} (hm : W'.many = W.many) (h : W'.meets.Perm (W.meets.map fun s => (0 - s.1, s.2.1, s.2.2))) (o : WebOk W) : WebOk W' := by
  refine ⟨by rw [hm]; exact o.pos, by rw [hm]; exact o.le, by rw [h.length_eq, List.length_map]; exact o.few, fun m q => ?_⟩
  rw [h.mem_iff, List.mem_map] at q
  obtain ⟨r, hr, e⟩ := q
  rw [← e, hm]
  exact o.ok r hr
section
variable {P : Program} {w : World} {K : PySem.W.Frag} {mg : Str → Option Value} {base : Heap}
/-! ### latest_to, latest_walk -/
def sp_latest_to : Sp := fun vs H Q _ => ∃ (x : V) (W : Web) (rest last : Int) (goal : Nat), vs = [x, .int rest, nV goal, .int last] ∧ WebAt H x W ∧ WebOk W ∧ 0 ≤ rest ∧ goal < W.many ∧
  ∀ p H' l, H p = none → Same H H' → OL H' p l → Late W rest goal last l → Q (.ref p) H'
theorem sc_latest_to : FnScope ["web", "rest", "goal", "last"] ["web", "rest", "goal", "last"] (defScope s_latest_to) := ⟨rfl, rfl, rfl, by decide +kernel, rfl, by decide +kernel, by decide +kernel⟩
theorem ok_latest_to (hh : Here K mg "latest_to" s_latest_to) (T : Tp K mg) (F_turned_list : Fn P w K mg base CX0 2 "turned_list" ["moments"] sp_turned_list) (F_soonest_from : Fn P w K mg base CX0 3 "soonest_from" ["web", "rest", "start", "first"] sp_soonest_from) (F_turned_web : Fn P w K mg base CX0 1 "turned_web" ["web"] sp_turned_web) : Fn P w K mg base CX0 4 "latest_to" ["web", "rest", "goal", "last"] sp_latest_to := by
  refine fn_mk hh sc_latest_to (fun vs H Q E h => ?_) (fun _ _ _ _ _ _ us hl => match us, hl with | [_, _, _, _], _ => rfl) (fun f cdv A outer s H vs Q E hr h => ?_)
  · obtain ⟨x, W, rest, last, goal, rfl, _⟩ := h
    rfl
  obtain ⟨x, W, rest, last, goal, rfl, hW, ok, h0, hgo, q⟩ := h
  refine ⟨_, (pss_one (ps_ret (pe_fn F_turned_list (hr.mono (by decide)) (by rfl) (pa_cons (pe_fn F_soonest_from (hr.mono (by decide)) (by rfl) (pa_cons (pe_fn F_turned_web (hr.mono (by decide)) (by rfl) (pa_cons (pv 0) pa_nil)) (pa_cons (pv 1) (pa_cons (pv 2) (pa_cons (pe_op op_sub pe_int (pv 3)) pa_nil))))) pa_nil)))), ?_⟩
  refine ⟨_, rfl, _, W, rfl, hW, by have := ok.few; omega, fun v1 H1 W1 s1 hW1 em pm => ?_⟩
  refine ⟨_, rfl, _, rfl, _, rfl, _, _, rfl, rfl, _, W1, rest, 0 - last, goal, rfl, hW1, turned_ok em pm ok, h0, by omega, fun p H2 c np s2 hc so => ?_⟩
  have hcl : c.length = W.many := by rw [so.1, em]
  refine ⟨p, c, rfl, hc, by have := ok.le; omega, fun p' H3 np3 s3 e3 => ?_⟩
  rw [turned_st pm, em] at so
  exact q p' H3 _ ((s1.trans s2).free np3) ((s1.trans s2).trans s3) e3 ⟨c, so, rfl⟩
def sp_latest_walk : Sp := fun vs H Q _ => ∃ (x : V) (W : Web) (rest last : Int) (start goal : Nat) (tc : Int), vs = [x, .int rest, nV start, nV goal, .int last] ∧ WebAt H x W ∧ WebOk W ∧ 0 ≤ rest ∧ start < W.many ∧ goal < W.many ∧ start ≠ goal ∧
  Comes (StT W) rest (0 - last) goal start tc ∧
  ∀ v' H' ws t0 t1, Same H H' → TupOfs H' v' ws → Walk (St W) rest start goal t0 t1 ws → t1 ≤ last → Least (StT W) rest (0 - last) goal start (0 - t0) → ws.length ≤ 100 → Q v' H'
theorem sc_latest_walk : FnScope ["web", "rest", "start", "goal", "last"] ["web", "rest", "start", "goal", "last"] (defScope s_latest_walk) := ⟨rfl, rfl, rfl, by decide +kernel, rfl, by decide +kernel, by decide +kernel⟩
theorem ok_latest_walk (hh : Here K mg "latest_walk" s_latest_walk) (T : Tp K mg) (F_turned_walk : Fn P w K mg base CX0 1 "turned_walk" ["walk"] sp_turned_walk) (F_soonest_walk : Fn P w K mg base CX0 3 "soonest_walk" ["web", "rest", "start", "goal", "first"] sp_soonest_walk) (F_turned_web : Fn P w K mg base CX0 1 "turned_web" ["web"] sp_turned_web) : Fn P w K mg base CX0 4 "latest_walk" ["web", "rest", "start", "goal", "last"] sp_latest_walk := by
  refine fn_mk hh sc_latest_walk (fun vs H Q E h => ?_) (fun _ _ _ _ _ _ us hl => match us, hl with | [_, _, _, _, _], _ => rfl) (fun f cdv A outer s H vs Q E hr h => ?_)
  · obtain ⟨x, W, rest, last, start, goal, tc, rfl, _⟩ := h
    rfl
  obtain ⟨x, W, rest, last, start, goal, tc, rfl, hW, ok, h0, hst, hgo, hne, hco, q⟩ := h
  refine ⟨_, (pss_cons (ps_if (pt_cmpR op_eq (pv 2) (pv 3) (nomark _))
        (pss_one (ps_ret (pe_tup pa_nil)))
        pss_nil)
      (pss_one (ps_ret (pe_fn F_turned_walk (hr.mono (by decide)) (by rfl) (pa_cons (pe_fn F_soonest_walk (hr.mono (by decide)) (by rfl) (pa_cons (pe_fn F_turned_web (hr.mono (by decide)) (by rfl) (pa_cons (pv 0) pa_nil)) (pa_cons (pv 1) (pa_cons (pv 3) (pa_cons (pv 2) (pa_cons (pe_op op_sub pe_int (pv 4)) pa_nil)))))) pa_nil))))), ?_⟩
  refine ⟨_, rfl, _, rfl, rfl, _, rfl, ?_⟩
  have ed : decide (V.int (start : Int) = V.int (goal : Int)) = false := decide_eq_false fun z => hne (by injection z with z; omega)
  rw [ed]
  refine iteF ⟨_, rfl, _, W, rfl, hW, by have := ok.few; omega, fun v1 H1 W1 s1 hW1 em pm => ?_⟩
  refine ⟨_, rfl, _, rfl, _, rfl, _, rfl, _, _, rfl, rfl, _, W1, rest, 0 - last, goal, start, tc, rfl, hW1, turned_ok em pm ok, h0, by omega, by omega, hne, by rw [turned_st pm]; exact hco, fun v2 H2 ws t0 t1 s2 tw wk hf le hl => ?_⟩
  rw [turned_st pm] at wk le
  refine ⟨_, ws, rfl, tw, by omega, fun v3 H3 s3 tw3 => ?_⟩
  refine q v3 H3 _ (-t1) (-t0) ((s1.trans s2).trans s3) tw3 (wk.turn fun s hs => ?_) (by omega) ?_ (by rw [List.length_map, List.length_reverse]; omega)
  · exact Or.symm hs
  · rw [show 0 - -t1 = t1 by omega]
    exact le
/-! ### in_time -/
/-- a place by which some walk comes in time -/
def InTime (W : Web) (rest first : Int) (start goal : Nat) (last : Int) (x : Nat) : Prop :=
  x = start ∨ x = goal ∨ ∃ a b, Least (St W) rest first start x a ∧ Least (StT W) rest (0 - last) goal x (0 - b) ∧ rest ≤ b - a
def sp_in_time : Sp := fun vs H Q _ => ∃ (x : V) (W : Web) (rest first last : Int) (start goal : Nat), vs = [x, .int rest, nV start, .int first, nV goal, .int last] ∧ WebAt H x W ∧ WebOk W ∧ 0 ≤ rest ∧ start < W.many ∧ goal < W.many ∧
  ∀ p H' (ps : List Nat), H p = none → Same H H' → H' p = some (.lst (ps.map nV)) → (∀ x ∈ ps, x < W.many ∧ InTime W rest first start goal last x) → Q (.ref p) H'
theorem slack_true {rest : Int} {s l : Option Int} (h : slack rest s l = true) : ∃ a b, s = some a ∧ l = some b ∧ rest ≤ b - a := by
  cases s with
  | none => cases h
  | some a =>
    cases l with
    | none => cases h
    | some b => exact ⟨a, b, rfl, rfl, of_decide_eq_true h⟩
theorem Late.least {W : Web} {rest last : Int} {goal v : Nat} {l : List (Option Int)} {b : Int} (h : Late W rest goal last l) (hv : v ≠ goal) (e : l[v]? = some (some b)) : Least (StT W) rest (0 - last) goal v (0 - b) := by
  obtain ⟨c, hc, rfl⟩ := h
  rw [List.getElem?_map] at e
  cases q : c[v]? with
  | none => rw [q] at e; cases e
  | some o =>
    rw [q] at e
    cases o with
    | none => cases e
    | some t =>
      have e' : 0 - t = b := Option.some.inj (Option.some.inj e)
      rw [show 0 - b = t by omega]
      exact hc.least hv q
theorem sc_in_time : FnScope ["web", "rest", "start", "first", "goal", "last", "soonest", "latest", "found", "place"] ["web", "rest", "start", "first", "goal", "last"] (defScope s_in_time) := ⟨rfl, rfl, rfl, by decide +kernel, rfl, by decide +kernel, by decide +kernel⟩
theorem ok_in_time (hh : Here K mg "in_time" s_in_time) (T : Tp K mg) (F_soonest_from : Fn P w K mg base CX0 3 "soonest_from" ["web", "rest", "start", "first"] sp_soonest_from) (F_latest_to : Fn P w K mg base CX0 4 "latest_to" ["web", "rest", "goal", "last"] sp_latest_to) (F_has_slack : Fn P w K mg base CX0 1 "has_slack" ["rest", "soonest", "latest"] sp_has_slack) : Fn P w K mg base CX0 5 "in_time" ["web", "rest", "start", "first", "goal", "last"] sp_in_time := by
  refine fn_mk hh sc_in_time (fun vs H Q E h => ?_) (fun _ _ _ _ _ _ us hl => match us, hl with | [_, _, _, _, _, _], _ => rfl) (fun f cdv A outer s H vs Q E hr h => ?_)
  · obtain ⟨x, W, rest, first, last, start, goal, rfl, _⟩ := h
    rfl
  obtain ⟨x, W, rest, first, last, start, goal, rfl, hW, ok, h0, hst, hgo, q⟩ := h
  obtain ⟨wa, wb, rfl, hwa, _⟩ := id hW
  have hm7 := ok.le
  refine ⟨_, (pss_cons (ps_set (i := 6) sc_in_time.nd rfl (.inl rfl) (pe_fn F_soonest_from (hr.mono (by decide)) (by rfl) (pa_cons (pv 0) (pa_cons (pv 1) (pa_cons (pv 2) (pa_cons (pv 3) pa_nil))))))
      (pss_cons (ps_set (i := 7) sc_in_time.nd rfl (.inl rfl) (pe_fn F_latest_to (hr.mono (by decide)) (by rfl) (pa_cons (pv 0) (pa_cons (pv 1) (pa_cons (pv 4) (pa_cons (pv 5) pa_nil))))))
      (pss_cons (ps_if (PW.pt (pw_or (pt_cmpR op_isN (pe_ix ix_list (pv 6) (pv 4) (fun _ _ => rfl)) pe_non (nomark _)) (pw_or1 (pt_cmpR op_gt (pe_ix ix_list (pv 6) (pv 4) (fun _ _ => rfl)) (pv 5) (nomark _)))))
        (pss_one (ps_ret (pe_lst pa_nil)))
        pss_nil)
      (pss_cons (ps_set (i := 8) sc_in_time.nd rfl (.inl rfl) (pe_lst pa_nil))
      (pss_cons (ps_for PassesOwn.never rfl (pi_range1 (by rfl) T.range (pa_cons (pe_ix ix_tup (pv 0) pe_int (fun _ _ => rfl)) pa_nil)) (pg_name (i := 9) sc_in_time.nd rfl (.inl rfl))
        (pss_one (ps_if (PW.pt (pw_or (pt_cmpR op_in_seq (pv 9) (pe_tup (pa_cons (pv 2) (pa_cons (pv 4) pa_nil))) (by rfl)) (pw_or1 (pt_val (pe_fn F_has_slack (hr.mono (by decide)) (by rfl) (pa_cons (pv 1) (pa_cons (pe_ix ix_list (pv 6) (pv 9) (fun _ _ => rfl)) (pa_cons (pe_ix ix_list (pv 7) (pv 9) (fun _ _ => rfl)) pa_nil))))))))
          (pss_one (ps_expr (pe_bm PySem.F.plainAttrs_list PySem.F.slot_list_append PySem.F.type_list_append mt_append (pv 8) (pa_cons (pv 9) pa_nil))))
          pss_nil)))
      (pss_one (ps_ret (pv 8)))))))), ?_⟩
  refine ⟨_, rfl, _, rfl, _, rfl, _, rfl, _, W, rest, first, start, rfl, hW, ok, h0, hst, fun p1 H1 c np1 s1 hc so => ?_⟩
  refine ⟨_, rfl, _, rfl, _, rfl, _, rfl, _, W, rest, last, goal, rfl, hW.ke (.of s1), ok, h0, hgo, fun p2 H2 l np2 s2 hl la => ?_⟩
  have s12 := s1.trans s2
  have hc2 := s2 _ _ hc
  have hcg : c[goal]? = some (c.getD goal none) := by
    rw [List.getD_eq_getElem?_getD, List.getElem?_eq_getElem (by rw [so.1]; exact hgo)]
    rfl
  have empty : ∀ D, H2 D = none → Q (.ref D) (upd H2 D (.lst [])) := fun D nD => q D _ [] (s12.free nD) (same_past s12 (s12.free nD)) upd_same fun x hx => by cases hx
  cases hq : c.getD goal none with
  | none =>
    rw [hq] at hcg
    refine ⟨_, rfl, _, rfl, p1, _, _, _, rfl, rfl, SqL.of hc2, oGet hcg, rfl, _, rfl, iteT (iteT ?_)⟩
    exact ⟨Nat.zero_le _, empty⟩
  | some t =>
    rw [hq] at hcg
    refine ⟨_, rfl, _, rfl, p1, _, _, _, rfl, rfl, SqL.of hc2, oGet hcg, rfl, _, rfl, iteF ?_⟩
    refine ⟨_, rfl, _, rfl, p1, _, _, _, rfl, rfl, SqL.of hc2, oGet hcg, _, rfl, _, _, rfl, rfl, _, rfl, ?_⟩
    refine ite2 (fun _ => ⟨Nat.zero_le _, empty⟩) (fun _ => ?_)
    refine ⟨Nat.zero_le _, fun D nD => gen nD fun H3 s3 e3 => ?_⟩
    refine ⟨_, rfl, wa, _, _, _, rfl, rfl, SqT.of ((s12.trans s3) _ _ hwa), rfl, _, rfl, by omega, by omega, ?_⟩
    have s13 := s12.trans s3
    refine for_range (lo := 0) (n := W.many) (fun i σ H' => (∃ o9, σ = [some (.ref wa), some (.int rest), some (nV start), some (.int first), some (nV goal), some (.int last), some (.ref p1), some (.ref p2), some (.ref D), o9]) ∧
      Same H H' ∧ OL H' p1 c ∧ OL H' p2 l ∧ ∃ ps : List Nat, H' D = some (.lst (ps.map nV)) ∧ (∀ x ∈ ps, x < W.many ∧ InTime W rest first start goal last x) ∧ ps.length ≤ i) ⟨⟨_, rfl⟩, s13, s3 _ _ hc2, s3 _ _ hl, [], e3, fun x hx => (by cases hx), Nat.le_refl _⟩ ?_ ?_
    · rintro i σ H' hi ⟨⟨o9, rfl⟩, sm, hc', hl', ps, hD, hin, hle⟩
      rw [Int.zero_add]
      have npp : H D = none := s12.free nD
      have put : InTime W rest first start goal last i → ∀ H4, Same H' H4 → ∃ l' xs y, V.ref D = .ref l' ∧ [nV i] = [y] ∧ H4 l' = some (.lst xs) ∧ xs.length < sizeLine ∧
          ((∃ o9, [some (V.ref wa), some (.int rest), some (nV start), some (.int first), some (nV goal), some (.int last), some (.ref p1), some (.ref p2), some (.ref D), some (nV i)] = [some (V.ref wa), some (.int rest), some (nV start), some (.int first), some (nV goal), some (.int last), some (.ref p1), some (.ref p2), some (.ref D), o9]) ∧
            Same H (upd H4 l' (.lst (xs ++ [y]))) ∧ OL (upd H4 l' (.lst (xs ++ [y]))) p1 c ∧ OL (upd H4 l' (.lst (xs ++ [y]))) p2 l ∧ ∃ ps : List Nat, (upd H4 l' (.lst (xs ++ [y]))) D = some (.lst (ps.map nV)) ∧ (∀ x ∈ ps, x < W.many ∧ InTime W rest first start goal last x) ∧ ps.length ≤ i + 1) := fun hin1 H4 s4 => by
        refine ⟨D, _, _, rfl, rfl, s4 _ _ hD, z100' (by rw [List.length_map]; omega), ⟨_, rfl⟩, same_past (sm.trans s4) npp, ?_, ?_, ps ++ [i], ?_, fun x hx => ?_, by rw [List.length_append, List.length_singleton]; omega⟩
        · exact (upd_ne (ne_of_none hc2 nD)).trans (s4 _ _ hc')
        · exact (upd_ne (ne_of_none hl nD)).trans (s4 _ _ hl')
        · rw [upd_same, List.map_append]
          rfl
        · rcases List.mem_append.mp hx with z | z
          · exact hin x z
          · rw [List.mem_singleton.mp z]
            exact ⟨hi, hin1⟩
      refine ⟨_, rfl, _, rfl, _, rfl, two_le, fun pT nT => gen nT fun H4 s4 e4 => ⟨pT, _, rfl, .inr (SqT.of e4), rfl, rfl, _, rfl, ?_⟩⟩
      have ein : inV (nV i) [nV start, nV goal] = decide (i = start ∨ i = goal) := by
        show (((start : Int) == (i : Int)) || (((goal : Int) == (i : Int)) || false)) = _
        rw [Bool.eq_iff_iff]
        simp
        omega
      rw [if_neg Bool.false_ne_true, ein]
      by_cases hsg : i = start ∨ i = goal
      · rw [decide_eq_true hsg]
        refine iteT (iteT ⟨_, rfl, .inl ⟨rfl, _, SqL.of (s4 _ _ hD)⟩, _, rfl, put ?_ H4 s4⟩)
        rcases hsg with z | z
        · exact .inl z
        · exact .inr (.inl z)
      · rw [decide_eq_false hsg]
        have hlen : i < c.length := by rw [so.1]; exact hi
        have hlenl : i < l.length := by rw [la.length]; exact hi
        have gc : c[i]? = some (c.getD i none) := by
          rw [List.getD_eq_getElem?_getD, List.getElem?_eq_getElem hlen]
          rfl
        have gl : l[i]? = some (l.getD i none) := by
          rw [List.getD_eq_getElem?_getD, List.getElem?_eq_getElem hlenl]
          rfl
        refine iteF ⟨_, rfl, _, rfl, _, rfl, p1, _, _, _, rfl, rfl, SqL.of (s4 _ _ hc'), oGet gc, _, rfl, _, rfl, p2, _, _, _, rfl, rfl, SqL.of (s4 _ _ hl'), oGet gl, rest, _, _, rfl, _, rfl, ?_⟩
        cases hsl : slack rest (c.getD i none) (l.getD i none) with
        | true =>
          refine iteT ⟨_, rfl, .inl ⟨rfl, _, SqL.of (s4 _ _ hD)⟩, _, rfl, put ?_ H4 s4⟩
          obtain ⟨a, b, ea, eb, le⟩ := slack_true hsl
          rw [ea] at gc
          rw [eb] at gl
          exact .inr (.inr ⟨a, b, so.least (fun z => hsg (.inl z)) gc, la.least (fun z => hsg (.inr z)) gl, le⟩)
        | false =>
          exact iteF ⟨⟨_, rfl⟩, sm.trans s4, s4 _ _ hc', s4 _ _ hl', ps, s4 _ _ hD, hin, by omega⟩
    · rintro σ H' ⟨⟨o9, rfl⟩, sm, hc', hl', ps, hD, hin, hle⟩
      exact ⟨_, rfl, q D H' ps (s12.free nD) sm hD hin⟩
end
end Wm
end
section
set_option Elab.async false
set_option linter.all false
set_option maxRecDepth 100000
set_option maxHeartbeats 4000000
namespace Wm
open PySem PySem.Spec PyProof.Rows L2
/-- the error class of too many -/
structure Er (K : PySem.W.Frag) (mg : Str → Option Value) (C : Addr) : Prop where
  x : PySem.W.excIn K C [.type "ValueError", .type "Exception", .type "BaseException", .type "object"] "ValueError.__new__" = true
  g : mg "TooMany" = some (.ref C)
  k : PySem.W.keepIn K (.ref C) = true
  b : PySem.W.subIn K (.ref C) (.type "BaseException") = some true
  t : PySem.W.typeIn K (.ref C) = some (.type "type")
  e : PySem.W.exmOne K (.ref C) (.ref C) = some true
theorem inV_nV (v : Nat) (pl : List Nat) : inV (nV v) (pl.map nV) = decide (v ∈ pl) := by
  unfold inV
  induction pl with
  | nil => rfl
  | cons a r ih =>
    rw [List.map_cons, List.any_cons, ih, Bool.eq_iff_iff]
    show (((a : Int) == (v : Int)) || _) = true ↔ _
    simp only [Bool.or_eq_true, decide_eq_true_eq, beq_iff_eq, List.mem_cons]
    constructor
    · rintro (h | h)
      · exact .inl (by omega)
      · exact .inr h
    · rintro (h | h)
      · exact .inl (by omega)
      · exact .inr h
theorem flat_nV (pl : List Nat) : (pl.map nV).all flatV = true := by
  rw [List.all_eq_true]
  intro x hx
  obtain ⟨n, _, rfl⟩ := List.mem_map.mp hx
  rfl
theorem compl_goal {ss wk w : List Step} {rest : Int} {goal : Nat} {pl : List Nat} (h : pl.getLast? = some goal) : Compl ss rest goal wk pl w ↔ w = wk := by
  constructor
  · intro c
    cases c with
    | done _ => rfl
    | go h1 h2 => rw [h] at h1; cases h1; exact absurd rfl h2
  · intro e
    rw [e]
    exact .done h
/-- how a walk so far goes on -/
def Nxt (ss : List Step) (rest : Int) (goal : Nat) (wk : List Step) (pl : List Nat) (p : Nat) (s : Step) (w : List Step) : Prop :=
  s.2.1 = p ∧ s.2.2 ∉ pl ∧ (∀ x, wk.getLast? = some x → Goes rest x s) ∧ Compl ss rest goal (wk ++ [s]) (pl ++ [s.2.2]) w
theorem compl_step {ss wk w : List Step} {rest : Int} {goal p : Nat} {pl : List Nat} (h : pl.getLast? = some p) (hne : p ≠ goal) : Compl ss rest goal wk pl w ↔ ∃ s ∈ ss, Nxt ss rest goal wk pl p s w := by
  constructor
  · intro c
    cases c with
    | done h1 => rw [h] at h1; cases h1; exact absurd rfl hne
    | @go _ _ _ p' s h1 h2 h3 h4 h5 h6 h7 =>
      rw [h] at h1
      cases h1
      exact ⟨s, h3, h4, h5, h6, h7⟩
  · rintro ⟨s, h3, h4, h5, h6, h7⟩
    exact .go h hne h3 h4 h5 h6 h7
theorem last_at {α : Type} {l : List α} {x : α} (h : l.getLast? = some x) : l[l.length - 1]? = some x := by
  rw [← List.getLast?_eq_getElem?]
  exact h
theorem dp_tris_nil {K : PySem.W.Frag} {H : Hp} {p : Addr} (h : H p = some (.lst [])) : Dp K H (.ref p) (.list (([] : List Step).map tri)) := .lst (SqL.of h) .nil
theorem tris_eqv_nil (ss : List Step) : PyData.eqv (.list (ss.map tri)) (.list (([] : List Step).map tri)) = decide (ss = []) := by
  cases ss with
  | nil => simp [PyData.eqv, PyData.eqvAll]
  | cons a r => simp [PyData.eqv, PyData.eqvAll]
section
variable {P : Program} {w : World} {K : PySem.W.Frag} {mg : Str → Option Value} {base : Heap} {C : Addr}
abbrev Founds (H : Hp) (fv : List V) (fs : List (List Step)) : Prop := Paired (TupOfs H) fv fs
theorem Founds.ke {H H' : Hp} {fv : List V} {fs : List (List Step)} (h : Founds H fv fs) (k : Ke H H') : Founds H' fv fs := pr_mono h fun _ _ q => q.ke k
def sp_put_walks (C : Addr) (n : Nat) : Sp := fun vs H Q E => ∃ (sa wa pa fa : Addr) (sv wv fv : List V) (ss wk : List Step) (fs : List (List Step)) (rest : Int) (start goal many : Nat) (pl : List Nat),
  vs = [.ref sa, .int rest, .ref wa, .ref pa, nV goal, .ref fa] ∧ H sa = some (.lst sv) ∧ T3s H sv ss ∧ H wa = some (.lst wv) ∧ T3s H wv wk ∧ H pa = some (.lst (pl.map nV)) ∧ H fa = some (.lst fv) ∧ Founds H fv fs ∧
    fa ≠ sa ∧ fa ≠ wa ∧ fa ≠ pa ∧ SoFar ss rest start wk pl ∧ (∀ s ∈ ss, s.2.1 < many ∧ s.2.2 < many) ∧ (∀ x ∈ pl, x < many) ∧ many ≤ 7 ∧ many < pl.length + n ∧ fs.length ≤ 100 ∧
    (∀ H', Sb fa H H' → E (.ref C) none H') ∧
    (∀ H' fv' new, Sb fa H H' → H' fa = some (.lst fv') → Founds H' fv' (fs ++ new) → (∀ w, w ∈ new ↔ Compl ss rest goal wk pl w) → (fs ++ new).length ≤ 100 → Q .non H')
def t_rec (K : PySem.W.Frag) (C : Addr) (n : Nat) (E : XK) : TS :=
  tDrop (tCall (sp_put_walks C n) [] E (tCons (tVar 0) (tCons (tVar 1) (tCons (tOp rCat (tVar 2) (tLst (tCons (tVar 6) tNil))) (tCons (tOp rCat (tVar 3) (tLst (tCons (tOp (rIxT K) (tVar 6) (tC (.int 2))) tNil))) (tCons (tVar 4) (tCons (tVar 5) tNil)))))))
theorem sc_put_walks : FnScope ["steps", "rest", "walk", "places", "goal", "found", "step"] ["steps", "rest", "walk", "places", "goal", "found"] (defScope s_put_walks) := ⟨rfl, rfl, rfl, by decide +kernel, rfl, by decide +kernel, by decide +kernel⟩
theorem ok_put_walks (hh : Here K mg "put_walks" s_put_walks) (T : Tp K mg) (R : Er K mg C) (F_goes_on : Fn P w K mg base CX0 1 "goes_on" ["rest", "step", "behind"] sp_goes_on) : ∀ n, Fn P w K mg base (L2.CX P w) (n + 1) "put_walks" ["steps", "rest", "walk", "places", "goal", "found"] (sp_put_walks C n) := by
  intro n
  induction n with
  | zero =>
    refine fn_mkX hh sc_put_walks (fun vs H Q E h => ?_) (fun _ _ _ _ _ _ us hl => match us, hl with | [_, _, _, _, _, _], _ => rfl) (fun f cdv A outer s H vs Q E hr h => ?_)
    · obtain ⟨sa, wa, pa, fa, sv, wv, fv, ss, wk, fs, rest, start, goal, many, pl, rfl, _⟩ := h
      rfl
    · obtain ⟨sa, wa, pa, fa, sv, wv, fv, ss, wk, fs, rest, start, goal, many, pl, rfl, _, _, _, _, _, _, _, _, _, _, so, _, hpl, _, hlt, _⟩ := h
      have := nodup_len many pl so.once hpl
      omega
  | succ n F_put_walks =>
    refine fn_mkX hh sc_put_walks (fun vs H Q E h => ?_) (fun _ _ _ _ _ _ us hl => match us, hl with | [_, _, _, _, _, _], _ => rfl) (fun f cdv A outer s H vs Q E hr h => ?_)
    · obtain ⟨sa, wa, pa, fa, sv, wv, fv, ss, wk, fs, rest, start, goal, many, pl, rfl, _⟩ := h
      rfl
    obtain ⟨sa, wa, pa, fa, sv, wv, fv, ss, wk, fs, rest, start, goal, many, pl, rfl, hsa, hss, hwa, hwk, hpa, hfa, hfs, ne1, ne2, ne3, so, hin, hpl, hm7, hlt, h100, qe, q⟩ := h
    obtain ⟨p, hp⟩ : ∃ p, pl.getLast? = some p := ⟨_, so.last⟩
    have gp : atI (pl.map nV) (-1 : Int) = some (nV p) := atI_m1 (by
      rw [List.length_map, List.getElem?_map, last_at hp]
      rfl)
    have hplen := nodup_len many pl so.once hpl
    have hfl : fv.length = fs.length := pr_len hfs
    have hwl : wv.length = wk.length := pr_len hwk
    have hwp : pl.length = wk.length + 1 := by rw [so.pl, List.length_cons, List.length_map]
    refine ⟨_, (pss_cons (ps_if (pt_cmpR op_eq (pe_ix ix_list (pv 3) (pe_un un_neg pe_int) (fun _ _ => rfl)) (pv 4) (nomark _))
        (pss_cons (ps_if (pt_cmpR op_eq (pe_callB call_len_seq (by rfl) T.len PySem.boot_len (pa_cons (pv 5) pa_nil)) (pe_glob (v := .int 100) rfl T.walks.choose_spec ⟨_, rfl⟩) (nomark _))
          (pss_one (ps_raise rfl (takes_of rfl rfl rfl rfl) (pmk_own PySem.F.excBase_ValueError R.x R.g R.k (raises_own R.b R.t) rfl)))
          pss_nil)
        (pss_cons (ps_expr (pe_bm PySem.F.plainAttrs_list PySem.F.slot_list_append PySem.F.type_list_append mt_append (pv 5) (pa_cons (pe_callTy call_tuple_of (by rfl) T.tuple (by decide +kernel) (pa_cons (pv 2) pa_nil)) pa_nil)))
        (pss_one ps_retN)))
        pss_nil)
      (pss_one (ps_for (passes_of rfl) rfl (pi_list (pv 0)) (pg_name (i := 6) sc_put_walks.nd rfl (.inl rfl))
        (pss_one (ps_if (PW.pt (pw_and (pt_cmpR op_eq (pe_ix ix_tup (pv 6) pe_int (fun _ _ => rfl)) (pe_ix ix_list (pv 3) (pe_un un_neg pe_int) (fun _ _ => rfl)) (nomark _)) (pw_and (pt_cmpR op_notIn_seq (pe_ix ix_tup (pv 6) pe_int (fun _ _ => rfl)) (pv 3) (by rfl)) (pw_and1 (PW.pt (pw_or (pt_cmpR (op_eqD (ru64 hr)) (pv 2) (pe_lst pa_nil) (nomark _)) (pw_or1 (pt_val (pe_fn F_goes_on (hr.mono (by omega)) (by rfl) (pa_cons (pv 1) (pa_cons (pe_ix ix_list (pv 2) (pe_un un_neg pe_int) (fun _ _ => rfl)) (pa_cons (pv 6) pa_nil))))))))))))
          (pss_one (ps_expr (pe_fnX F_put_walks (hr.mono (by omega)) (by rfl) (passes_call (takes_of rfl rfl rfl rfl) (fun _ _ _ _ h => h)) (pa_cons (pv 0) (pa_cons (pv 1) (pa_cons (pe_op op_cat (pv 2) (pe_lst (pa_cons (pv 6) pa_nil))) (pa_cons (pe_op op_cat (pv 3) (pe_lst (pa_cons (pe_ix ix_tup (pv 6) pe_int (fun _ _ => rfl)) pa_nil))) (pa_cons (pv 4) (pa_cons (pv 5) pa_nil)))))))))
          pss_nil))))), ?_⟩
    refine ⟨_, rfl, _, rfl, pa, _, _, _, rfl, rfl, SqL.of hpa, gp, _, rfl, rfl, _, rfl, ?_⟩
    by_cases hg : p = goal
    · subst hg
      rw [decide_eq_true (rfl : V.int (p : Int) = V.int (p : Int))]
      refine iteT ⟨_, rfl, fa, _, rfl, .inl (SqL.of hfa), rfl, _, rfl, ?_⟩
      refine ite2 (fun e => ?_) (fun e => ?_)
      · exact qe H .refl
      · have hlt100 : fs.length < 100 := by
          rcases Nat.lt_or_ge fs.length 100 with z | z
          · exact z
          · exact absurd (decide_eq_true (by rw [hfl, show fs.length = 100 by omega]; rfl)) e
        refine ⟨_, rfl, .inl ⟨rfl, _, SqL.of hfa⟩, _, rfl, wa, wv, rfl, .inl ⟨SqL.of hwa, fun p4 n4 => gen n4 fun H4 s4 e4 => ?_⟩⟩
        refine ⟨fa, fv, _, rfl, rfl, s4 _ _ hfa, z100' (by omega), ?_⟩
        have k4 : Ke H4 (upd H4 fa (.lst (fv ++ [.ref p4]))) := Ke.lst (s4 _ _ hfa)
        have k04 := (Ke.of s4).trans k4
        refine q _ _ [wk] ((Sb.of s4).trans Sb.upd) upd_same (pr_append (hfs.ke k04) (pr_one ⟨p4, wv, rfl, k4 _ _ e4, T3s.ke hwk k04⟩)) (fun w => ?_) (by rw [List.length_append, List.length_singleton]; omega)
        rw [List.mem_singleton, compl_goal hp]
    · have hd : decide (V.int (p : Int) = V.int (goal : Int)) = false := decide_eq_false fun z => hg (by injection z with z; omega)
      rw [hd]
      refine iteF ?_
      refine ⟨_, rfl, sa, rfl, ⟨_, SqL.of hsa⟩, for_list (K := K) (a := sa) (xs := sv) (fun i σ H' => (∃ o6, σ = [some (.ref sa), some (.int rest), some (.ref wa), some (.ref pa), some (nV goal), some (.ref fa), o6]) ∧ Sb fa H H' ∧
        ∃ fv' new, H' fa = some (.lst fv') ∧ Founds H' fv' (fs ++ new) ∧ (∀ w, w ∈ new ↔ ∃ s ∈ ss.take i, Nxt ss rest goal wk pl p s w) ∧ (fs ++ new).length ≤ 100)
        ⟨⟨_, rfl⟩, .refl, fv, [], hfa, by rw [List.append_nil]; exact hfs, fun w => ⟨fun z => (by cases z), fun ⟨s, hs, _⟩ => (by cases hs)⟩, by rw [List.append_nil]; exact h100⟩
        (fun i σ H' _ pv => SqL.of (pv.2.1 _ _ ne1.symm hsa)) ?_ ?_⟩
      · rintro i x σ H' hi ⟨⟨o6, rfl⟩, sb, fv', new, hf', hfs', hnew, h100'⟩
        obtain ⟨s, hs, tx0⟩ := pr_get hss hi
        have kH : Ke H H' := sb.ke hfa
        have tx := tx0.ke kH
        obtain ⟨b, rfl, hb⟩ := id tx
        have hwa' := sb _ _ ne2.symm hwa
        have hpa' := sb _ _ ne3.symm hpa
        have hsa' := sb _ _ ne1.symm hsa
        have hwk' := T3s.ke hwk kH
        have tk : ∀ w, (∃ r ∈ ss.take (i + 1), Nxt ss rest goal wk pl p r w) ↔ (∃ r ∈ ss.take i, Nxt ss rest goal wk pl p r w) ∨ Nxt ss rest goal wk pl p s w := fun w => by
          constructor
          · rintro ⟨r, hr, h⟩
            rcases mem_take_succ hs hr with z | z
            · exact .inl ⟨r, z, h⟩
            · exact .inr (z ▸ h)
          · rw [List.take_add_one, hs]
            rintro (⟨r, hr, h⟩ | h)
            · exact ⟨r, List.mem_append_left _ hr, h⟩
            · exact ⟨s, List.mem_append_right _ (by simp), h⟩
        have skip : (∀ w, ¬ Nxt ss rest goal wk pl p s w) → ∀ H4, Same H' H4 → (∃ o6, [some (.ref sa), some (.int rest), some (.ref wa), some (.ref pa), some (nV goal), some (.ref fa), some (.ref b)] = [some (.ref sa), some (.int rest), some (.ref wa), some (.ref pa), some (nV goal), some (.ref fa), o6]) ∧ Sb fa H H4 ∧
            ∃ fv' new, H4 fa = some (.lst fv') ∧ Founds H4 fv' (fs ++ new) ∧ (∀ w, w ∈ new ↔ ∃ s ∈ ss.take (i + 1), Nxt ss rest goal wk pl p s w) ∧ (fs ++ new).length ≤ 100 := fun no H4 s4 =>
          ⟨⟨_, rfl⟩, sb.trans (.of s4), fv', new, s4 _ _ hf', hfs'.ke (.of s4), fun w => by rw [tk w, hnew w]; exact ⟨.inl, fun z => z.elim id fun z => absurd z (no w)⟩, h100'⟩
        refine ⟨_, rfl, b, _, _, _, rfl, rfl, SqT.of hb, rfl, _, rfl, _, rfl, pa, _, _, _, rfl, rfl, SqL.of hpa', gp, rfl, _, rfl, ?_⟩
        by_cases c1 : s.2.1 = p
        · have d1 : decide (V.int (s.2.1 : Int) = V.int (p : Int)) = true := decide_eq_true (by rw [c1])
          rw [d1]
          refine iteT ⟨_, rfl, b, _, _, _, rfl, rfl, SqT.of hb, rfl, _, rfl, pa, _, rfl, .inl (SqL.of hpa'), rfl, flat_nV pl, _, rfl, ?_⟩
          rw [if_pos rfl, inV_nV]
          by_cases c2 : s.2.2 ∈ pl
          · rw [decide_eq_true c2]
            exact iteF (iteF (skip (fun w h => h.2.1 c2) H' (Same.refl _)))
          · rw [decide_eq_false c2]
            have go : (∀ x, wk.getLast? = some x → Goes rest x s) → ∀ (D : Ends) (H4 : Hp), Same H' H4 → (∀ H5, ((∃ o6, [some (.ref sa), some (.int rest), some (.ref wa), some (.ref pa), some (nV goal), some (.ref fa), some (.ref b)] = [some (.ref sa), some (.int rest), some (.ref wa), some (.ref pa), some (nV goal), some (.ref fa), o6]) ∧ Sb fa H H5 ∧
                ∃ fv' new, H5 fa = some (.lst fv') ∧ Founds H5 fv' (fs ++ new) ∧ (∀ w, w ∈ new ↔ ∃ s ∈ ss.take (i + 1), Nxt ss rest goal wk pl p s w) ∧ (fs ++ new).length ≤ 100) → D.nx [some (.ref sa), some (.int rest), some (.ref wa), some (.ref pa), some (nV goal), some (.ref fa), some (.ref b)] H5) →
                t_rec K C n E D [some (.ref sa), some (.int rest), some (.ref wa), some (.ref pa), some (nV goal), some (.ref fa), some (.ref b)] H4 := fun hgo D H4 s4 nx => by
              have hpl' : ∀ x ∈ pl ++ [s.2.2], x < many := fun x hx => by
                rcases List.mem_append.mp hx with z | z
                · exact hpl x z
                · rw [List.mem_singleton.mp z]; exact (hin s (List.mem_of_getElem? hs)).2
              have so' := so.more hp (List.mem_of_getElem? hs) c1 c2 hgo
              have hplen' := nodup_len many _ so'.once hpl'
              rw [List.length_append, List.length_singleton] at hplen'
              refine ⟨_, rfl, _, rfl, _, rfl, _, rfl, (by show 1 ≤ sizeLine; decide), fun p5 n5 => gen n5 fun H5 s5 e5 => ?_⟩
              have s45 := s4.trans s5
              refine ⟨wa, p5, _, _, rfl, rfl, s45 _ _ hwa', e5, z100 (by show wv.length + 1 ≤ _; omega), fun p6 n6 => gen n6 fun H6 s6 e6 => ?_⟩
              have s46 := s45.trans s6
              refine ⟨_, rfl, _, rfl, b, _, _, _, rfl, rfl, SqT.of (s46 _ _ hb), rfl, (by show 1 ≤ sizeLine; decide), fun p7 n7 => gen n7 fun H7 s7 e7 => ?_⟩
              have s47 := s46.trans s7
              refine ⟨pa, p7, _, _, rfl, rfl, s47 _ _ hpa', e7, z100 (by rw [List.length_map]; show pl.length + 1 ≤ _; omega), fun p8 n8 => gen n8 fun H8 s8 e8 => ?_⟩
              have s48 := s47.trans s8
              have hf8 := s48 _ _ hf'
              refine ⟨_, rfl, _, rfl, sa, p6, p8, fa, sv, wv ++ [.ref b], fv', ss, wk ++ [s], fs ++ new, rest, start, goal, many, pl ++ [s.2.2], rfl, s48 _ _ hsa', T3s.ke hss (kH.trans (.of s48)), (s7.trans s8) _ _ e6, pr_append (T3s.ke hwk' (.of s48)) (pr_one (tx.ke (.of s48))), ?_, hf8, hfs'.ke (.of s48), ne1, ?_, ?_, so', hin, hpl', hm7, ?_, h100', fun H9 s9 => qe H9 ((sb.trans (.of s48)).trans s9), fun H9 fv9 new9 s9 e9 p9 m9 l9 => ?_⟩
              · rw [e8, List.map_append]
                rfl
              · exact ne_of_none (s45 _ _ hf') n6
              · exact ne_of_none (s47 _ _ hf') n8
              · rw [List.length_append, List.length_singleton]
                omega
              · rw [List.append_assoc] at p9 l9
                refine nx H9 ⟨⟨_, rfl⟩, (sb.trans (.of s48)).trans s9, fv9, new ++ new9, e9, p9, fun w => ?_, l9⟩
                rw [List.mem_append, tk w, hnew w, m9 w]
                exact ⟨fun z => z.elim .inl fun z => .inr ⟨c1, c2, hgo, z⟩, fun z => z.elim .inl fun z => .inr z.2.2.2⟩
            refine iteT ⟨_, rfl, Nat.zero_le _, fun pE nE => gen nE fun H4 s4 e4 => ?_⟩
            refine ⟨_, _, (show Dp K H4 (.ref wa) (.list (wk.map tri)) from .lst (SqL.of (s4 _ _ hwa')) (T3s.ke hwk' (.of s4)).dp), dp_tris_nil e4, tris_shapedL wk, tris_shapedL [], _, rfl, ?_⟩
            rw [tris_eqv_nil]
            cases wk with
            | nil => exact iteT (iteT (go (fun x hx => by cases hx) _ H4 s4 fun H5 h5 => h5))
            | cons s0 r0 =>
              refine iteF ?_
              obtain ⟨x0, hx0⟩ : ∃ x0, (s0 :: r0).getLast? = some x0 := ⟨(s0 :: r0).getLast (by simp), List.getLast?_eq_some_getLast (by simp)⟩
              obtain ⟨v0, hv0, t0⟩ := pr_get' hwk (last_at hx0)
              rw [← hwl] at hv0
              refine ⟨_, rfl, _, rfl, _, rfl, wa, _, _, _, rfl, rfl, SqL.of (s4 _ _ hwa'), atI_m1 hv0, _, rfl, rest, _, _, x0, s, rfl, t0.ke (kH.trans (.of s4)), tx.ke (.of s4), _, rfl, ?_⟩
              by_cases c3 : x0.2.2 = s.2.1 ∧ x0.1 + rest ≤ s.1
              · rw [decide_eq_true c3]
                refine iteT (go (fun x hx => ?_) _ H4 s4 fun H5 h5 => h5)
                rw [hx0] at hx
                cases hx
                exact c3
              · rw [decide_eq_false c3]
                exact iteF (skip (fun w h => c3 (h.2.2.1 x0 hx0)) H4 s4)
        · have d1 : decide (V.int (s.2.1 : Int) = V.int (p : Int)) = false := decide_eq_false fun z => c1 (by injection z with z; omega)
          rw [d1]
          exact iteF (skip (fun w h => c1 h.1) H' (Same.refl _))
      · rintro σ H' ⟨⟨o6, rfl⟩, sb, fv', new, hf', hfs', hnew, h100'⟩
        refine q H' fv' new sb hf' hfs' (fun w => ?_) h100'
        rw [hnew, pr_len hss, List.take_length, compl_step hp hg]
/-! ### plain_walks -/
theorem Sb.same {p : Addr} {H H0 H' : Hp} (s0 : Same H H0) (np : H p = none) (s : Sb p H0 H') : Same H H' := fun b u e => s b u (fun z => by rw [z, np] at e; cases e) (s0 b u e)
def sp_plain_walks (C : Addr) : Sp := fun vs H Q E => ∃ (x : V) (W : Web) (rest first : Int) (start goal : Nat), vs = [x, .int rest, nV start, nV goal, .int first] ∧ WebAt H x W ∧ WebOk W ∧ start < W.many ∧
  (∀ H', Same H H' → E (.ref C) none H') ∧
  (∀ p H' fv ws ss, H p = none → Same H H' → H' p = some (.lst fv) → Founds H' fv ws → (∀ s, s ∈ ss ↔ St W s ∧ first ≤ s.1) → (∀ w, w ∈ ws ↔ Compl ss rest goal [] [start] w) → ws.length ≤ 100 → Q (.ref p) H')
theorem sc_plain_walks : FnScope ["web", "rest", "start", "goal", "first", "found", "step"] ["web", "rest", "start", "goal", "first"] (defScope s_plain_walks) := ⟨rfl, rfl, rfl, by decide +kernel, rfl, by decide +kernel, by decide +kernel⟩
theorem ok_plain_walks (hh : Here K mg "plain_walks" s_plain_walks) (T : Tp K mg) (F_put_walks : Fn P w K mg base (L2.CX P w) 10 "put_walks" ["steps", "rest", "walk", "places", "goal", "found"] (sp_put_walks C 9)) (F_steps_of : Fn P w K mg base CX0 1 "steps_of" ["web"] sp_steps_of) : Fn P w K mg base (L2.CX P w) 11 "plain_walks" ["web", "rest", "start", "goal", "first"] (sp_plain_walks C) := by
  refine fn_mkX hh sc_plain_walks (fun vs H Q E h => ?_) (fun _ _ _ _ _ _ us hl => match us, hl with | [_, _, _, _, _], _ => rfl) (fun f cdv A outer s H vs Q E hr h => ?_)
  · obtain ⟨x, W, rest, first, start, goal, rfl, _⟩ := h
    rfl
  obtain ⟨x, W, rest, first, start, goal, rfl, hW, ok, hst, qe, q⟩ := h
  have hfew := ok.few
  refine ⟨_, (pss_cons (ps_set (i := 5) sc_plain_walks.nd rfl (.inl rfl) (pe_lst pa_nil))
      (pss_cons (ps_expr (pe_fnX F_put_walks (hr.mono (by decide)) (by rfl) (passes_call (takes_of rfl rfl rfl rfl) (fun _ _ _ _ h => h)) (pa_cons (pe_lc (own := [("step", 6)]) (g := gName 6) (tt := (tTest (tOp (rI0 fun i j => .bl (decide (j ≤ i))) (tOp (rIxT K) (tVar 6) (tC (.int 0))) (tVar 4)))) (te := (tVar 6)) rfl sc_plain_walks.nd (pi_list (pe_fn F_steps_of (hr.mono (by decide)) (by rfl) (pa_cons (pv 0) pa_nil))) (blkOk_by (own := [("step", 6)]) (N := ["web", "rest", "start", "goal", "first", "found", "step"]) (sc := defScope s_plain_walks) (by decide +kernel)) (fun _ _ _ _ _ => (pg_name (i := 6) sc_plain_walks.nd rfl (.inl rfl))) (fun _ _ _ _ _ => pts_one (pt_cmpR op_ge (pe_ix ix_tup (pv 6) pe_int (fun _ _ => rfl)) (pv 4) (nomark _))) (fun _ _ _ _ _ => pv 6)) (pa_cons (pv 1) (pa_cons (pe_lst pa_nil) (pa_cons (pe_lst (pa_cons (pv 2) pa_nil)) (pa_cons (pv 3) (pa_cons (pv 5) pa_nil))))))))
      (pss_one (ps_ret (pv 5))))), ?_⟩
  refine ⟨Nat.zero_le _, fun fa nf => gen nf fun H1 s1 e1 => ?_⟩
  refine ⟨_, rfl, _, W, rfl, hW.ke (.of s1), by omega, fun p2 H2 ys ss np2 s2 e2 t2 mem so len => ?_⟩
  have s12 := s1.trans s2
  refine ⟨p2, rfl, ⟨_, SqL.of e2⟩, fun D nD => ?_⟩
  refine lcL (R0 := T3) (R := T3) (β := Step) kT3 (fun r => decide (first ≤ r.1)) id e2 t2 (by omega) nD (fun x r H3 k k0 sm hx hr hk hk0 => ?_) fun H3 zs s3 e3 t3 => ?_
  · have hx1 := hx.ke (.of sm)
    obtain ⟨c, rfl, hc⟩ := id hx1
    refine ⟨rfl, _, rfl, c, _, _, _, rfl, rfl, SqT.of hc, rfl, _, rfl, _, _, rfl, rfl, _, rfl, ?_⟩
    by_cases e1 : first ≤ r.1
    · rw [decide_eq_true e1]
      refine iteT ⟨_, rfl, hk ?_ _ H3 (Same.refl _) hx1⟩
      exact decide_eq_true e1
    · rw [decide_eq_false e1]
      refine iteF (hk0 ?_ H3 (Same.refl _))
      exact decide_eq_false e1
  · rw [List.map_id] at t3
    have s13 := s12.trans s3
    have s23 := s2.trans s3
    refine ⟨_, rfl, Nat.zero_le _, fun p4 n4 => gen n4 fun H4 s4 e4 => ?_⟩
    refine ⟨_, rfl, (by show 1 ≤ sizeLine; decide), fun p5 n5 => gen n5 fun H5 s5 e5 => ?_⟩
    have s35 := s4.trans s5
    have hf5 := (s23.trans s35) _ _ e1
    have s05 := s13.trans s35
    have mem' : ∀ r, r ∈ ss.filter (fun r => decide (first ≤ r.1)) ↔ St W r ∧ first ≤ r.1 := fun r => by
      rw [List.mem_filter, mem, decide_eq_true_iff]
    refine ⟨_, rfl, _, rfl, D, p4, p5, fa, zs, [], [], _, [], [], rest, start, goal, W.many, [start], rfl, s35 _ _ e3, T3s.ke t3 (.of s35), s5 _ _ e4, .nil, e5, hf5, .nil, ?_, ?_, ?_, SoFar.new, fun r hr => (ok.st ((mem' r).mp hr).1).2, fun x hx => by rw [List.mem_singleton.mp hx]; exact hst, ok.le, ?_, Nat.zero_le _, fun H6 s6 => ?_, fun H6 fv new s6 e6 f6 m6 l6 => ?_⟩
    · exact ne_of_none (s2 _ _ e1) nD
    · exact ne_of_none (s23 _ _ e1) n4
    · exact ne_of_none ((s23.trans s4) _ _ e1) n5
    · have := ok.le
      show W.many < 1 + 9
      omega
    · exact qe H6 (s6.same s05 nf)
    · exact ⟨_, rfl, q fa H6 fv new _ nf (s6.same s05 nf) e6 f6 mem' m6 l6⟩
end
end Wm
end
section
set_option Elab.async false
set_option linter.all false
set_option maxRecDepth 100000
set_option maxHeartbeats 4000000
/-! The law's own helpers: the pool, what is drawn out of it. -/
namespace Wm
open PySem PySem.Spec PyProof.Rows L2
/-- a pool: three numbers -/
def Pl (H : Hp) (p : Addr) : Prop := ∃ a b c : Int, H p = some (.lst [.int a, .int b, .int c])
theorem Pl.ke {H H' : Hp} {p : Addr} (h : Pl H p) (s : Sb p H H') : Ke H H' := by
  obtain ⟨_, _, _, e⟩ := h
  exact s.ke e
theorem Sb.seq {p : Addr} {K : PySem.W.Frag} {H H' : Hp} {a : Addr} {c : List (Option Int)} (s : Sb p H H') (n : a ≠ p) (h : OL H a c) : OL H' a c := s _ _ n h
/-- what stands is written over, the heap behind it by a letter -/
@[elab_as_elim] theorem genu {H : Hp} {p : Addr} {u o : HO} {G : Hp → Prop} (hp : H p = some u) (h : ∀ H', Sb p H H' → H' p = some o → G H') : G (upd H p o) := h _ Sb.upd upd_same
section
variable {P : Program} {w : World} {K : PySem.W.Frag} {mg : Str → Option Value} {base : Heap}
/-! ### _law_pool -/
def sp_l_pool : Sp := fun vs H Q _ => ∃ c : Int, vs = [.int c] ∧ ∀ p H', H p = none → Same H H' → Pl H' p → Q (.ref p) H'
theorem sc_l_pool : FnScope ["cell"] ["cell"] (defScope s_l_pool) := ⟨rfl, rfl, rfl, by decide +kernel, rfl, by decide +kernel, by decide +kernel⟩
theorem ok_l_pool (hh : Here K mg "_law_pool" s_l_pool) (T : Tp K mg)  : Fn P w K mg base CX0 1 "_law_pool" ["cell"] sp_l_pool := by
  refine fn_mk hh sc_l_pool (fun vs H Q E h => ?_) (fun _ _ _ _ _ _ us hl => match us, hl with | [_], _ => rfl) (fun f cdv A outer s H vs Q E hr h => ?_)
  · obtain ⟨c, rfl, _⟩ := h
    rfl
  obtain ⟨c, rfl, q⟩ := h
  refine ⟨_, (pss_one (ps_ret (pe_lst (pa_cons (pe_callB (call_max2 rfl) (by rfl) T.max (by decide +kernel) (pa_cons pe_int (pa_cons (pe_op op_sub (pv 0) (pe_op op_pow pe_int pe_int)) pa_nil))) (pa_cons (pe_op op_mod (pv 0) (pe_op op_pow pe_int pe_int)) (pa_cons pe_int pa_nil)))))), ?_⟩
  refine ⟨_, rfl, _, _, rfl, rfl, ⟨by decide, by decide, by decide⟩, _, _, rfl, rfl, _, _, rfl, _, rfl, _, _, rfl, rfl, ⟨by decide, by decide, by decide⟩, _, _, rfl, rfl, (show (0 : Int) < 10 ^ (18 : Int).toNat by decide), three_le, fun p np => gen np fun H' s e => ?_⟩
  exact q p H' np s ⟨_, _, _, e⟩
/-! ### _law_next -/
def sp_l_next : Sp := fun vs H Q _ => ∃ (p : Addr) (b : Int), vs = [.ref p, .int b] ∧ Pl H p ∧ 0 < b ∧ b < 2 ^ 200 ∧ ∀ v H', Sb p H H' → Pl H' p → 0 ≤ v → v < b → Q (.int v) H'
theorem sc_l_next : FnScope ["pool", "base", "digit", "near", "stir"] ["pool", "base"] (defScope s_l_next) := ⟨rfl, rfl, rfl, by decide +kernel, rfl, by decide +kernel, by decide +kernel⟩
theorem ok_l_next (hh : Here K mg "_law_next" s_l_next) (T : Tp K mg)  : Fn P w K mg base CX0 1 "_law_next" ["pool", "base"] sp_l_next := by
  refine fn_mk hh sc_l_next (fun vs H Q E h => ?_) (fun _ _ _ _ _ _ us hl => match us, hl with | [_, _], _ => rfl) (fun f cdv A outer s H vs Q E hr h => ?_)
  · obtain ⟨p, b, rfl, _⟩ := h
    rfl
  obtain ⟨p, b, rfl, ⟨x, y, z, hp⟩, h0, hlt, q⟩ := h
  refine ⟨_, (pss_cons (ps_if (pt_cmpR op_gt (pe_ix ix_list (pv 0) pe_int (fun _ _ => rfl)) pe_int (nomark _))
        (pss_cons (ps_set (i := 2) sc_l_next.nd rfl (.inl rfl) (pe_op op_mod (pe_ix ix_list (pv 0) pe_int (fun _ _ => rfl)) (pv 1)))
        (pss_cons (ps_asg (pe_op op_fdivW (pe_ix ix_list (pv 0) pe_int (fun _ _ => rfl)) (pv 1)) (pg_sub (pv 0) pe_int set_list))
        (pss_one (ps_ret (pv 2)))))
        pss_nil)
      (pss_cons (ps_asg (pe_op op_add (pe_ix ix_list (pv 0) pe_int (fun _ _ => rfl)) pe_int) (pg_sub (pv 0) pe_int set_list))
      (pss_cons (ps_set (i := 3) sc_l_next.nd rfl (.inl rfl) (pe_op op_mod (pe_op op_add (pe_ix ix_list (pv 0) pe_int (fun _ _ => rfl)) (pe_op op_mul pe_int (pe_ix ix_list (pv 0) pe_int (fun _ _ => rfl)))) pe_int))
      (pss_cons (ps_set (i := 4) sc_l_next.nd rfl (.inl rfl) (pe_op op_mod (pe_op op_mul (pe_op op_add (pv 3) pe_int) (pe_op op_add (pv 3) pe_int)) pe_int))
      (pss_one (ps_ret (pe_op op_mod (pe_op op_fdivW (pe_op op_mod (pe_op op_mul (pv 4) (pv 4)) pe_int) pe_int) (pv 1)))))))), ?_⟩
  refine ⟨_, rfl, p, _, _, _, rfl, rfl, SqL.of hp, rfl, _, _, rfl, rfl, _, rfl, ?_⟩
  refine ite2 (fun _ => ?_) (fun _ => ?_)
  · refine ⟨_, rfl, p, _, _, _, rfl, rfl, SqL.of hp, rfl, _, rfl, _, _, rfl, rfl, h0, ?_⟩
    refine ⟨_, rfl, p, _, _, _, rfl, rfl, SqL.of hp, rfl, _, rfl, _, _, rfl, rfl, wide_div (b := 200) h0 (by omega) (by omega) (by omega), ?_⟩
    refine ⟨_, rfl, p, _, _, 0, rfl, rfl, hp, rfl, ?_⟩
    exact ⟨_, rfl, q _ _ Sb.upd ⟨_, _, _, upd_same⟩ (Int.emod_nonneg _ (by omega)) (Int.emod_lt_of_pos _ h0)⟩
  · refine ⟨_, rfl, p, _, _, _, rfl, rfl, SqL.of hp, rfl, _, _, rfl, rfl, ?_⟩
    refine ⟨_, rfl, p, _, _, 2, rfl, rfl, hp, rfl, genu hp fun H2 sb hp2 => ?_⟩
    refine ⟨_, rfl, p, _, _, _, rfl, rfl, SqL.of hp2, rfl, _, rfl, p, _, _, _, rfl, rfl, SqL.of hp2, rfl, _, _, rfl, rfl, .inl ⟨by decide, by decide⟩, _, _, rfl, rfl, _, _, rfl, rfl, (show (0 : Int) < 1000000007 by decide), ?_⟩
    have hn := Int.emod_lt_of_pos (y + 7919 * (z + 1)) (show (0 : Int) < 1000000007 by decide)
    have hn0 := Int.emod_nonneg (y + 7919 * (z + 1)) (show (1000000007 : Int) ≠ 0 by decide)
    generalize (y + 7919 * (z + 1)) % 1000000007 = nr at hn hn0
    refine ⟨_, rfl, _, _, rfl, rfl, _, rfl, _, _, rfl, rfl, _, _, rfl, rfl, .inl ⟨by omega, by omega⟩, _, _, rfl, rfl, (show (0 : Int) < 998244353 by decide), ?_⟩
    have hs := Int.emod_lt_of_pos ((nr + 11) * (nr + 48271)) (show (0 : Int) < 998244353 by decide)
    have hs0 := Int.emod_nonneg ((nr + 11) * (nr + 48271)) (show (998244353 : Int) ≠ 0 by decide)
    generalize (nr + 11) * (nr + 48271) % 998244353 = sr at hs hs0
    refine ⟨_, rfl, _, rfl, _, _, rfl, rfl, .inl ⟨by omega, by omega⟩, _, _, rfl, rfl, (show (0 : Int) < 2147483647 by decide), _, _, rfl, rfl, wide_div (b := 200) (show (0 : Int) < 8 by decide) (by decide) (by decide) (by decide), _, rfl, _, _, rfl, rfl, h0, ?_⟩
    exact q _ _ sb ⟨_, _, _, hp2⟩ (Int.emod_nonneg _ (by omega)) (Int.emod_lt_of_pos _ h0)
/-! ### _law_wide -/
def sp_l_wide : Sp := sp_l_next
theorem sc_l_wide : FnScope ["pool", "base", "found", "k"] ["pool", "base"] (defScope s_l_wide) := ⟨rfl, rfl, rfl, by decide +kernel, rfl, by decide +kernel, by decide +kernel⟩
theorem ok_l_wide (hh : Here K mg "_law_wide" s_l_wide) (T : Tp K mg) (F_l_next : Fn P w K mg base CX0 1 "_law_next" ["pool", "base"] sp_l_next) : Fn P w K mg base CX0 2 "_law_wide" ["pool", "base"] sp_l_wide := by
  refine fn_mk hh sc_l_wide (fun vs H Q E h => ?_) (fun _ _ _ _ _ _ us hl => match us, hl with | [_, _], _ => rfl) (fun f cdv A outer s H vs Q E hr h => ?_)
  · obtain ⟨p, b, rfl, _⟩ := h
    rfl
  obtain ⟨p, b, rfl, pl, h0, hlt, q⟩ := h
  obtain ⟨x, y, z, hp⟩ := id pl
  refine ⟨_, (pss_cons (ps_if (pt_cmpR op_gt (pe_ix ix_list (pv 0) pe_int (fun _ _ => rfl)) pe_int (nomark _))
        (pss_one (ps_ret (pe_fn F_l_next (hr.mono (by decide)) (by rfl) (pa_cons (pv 0) (pa_cons (pv 1) pa_nil)))))
        pss_nil)
      (pss_cons (ps_set (i := 2) sc_l_wide.nd rfl (.inl rfl) pe_int)
      (pss_cons (ps_for PassesOwn.never rfl (pi_range1 (by rfl) T.range (pa_cons pe_int pa_nil)) (pg_name (i := 3) sc_l_wide.nd rfl (.inl rfl))
        (pss_one (ps_set (i := 2) sc_l_wide.nd rfl (.inl rfl) (pe_op op_add (pe_op op_mul (pv 2) (pe_op op_pow pe_int pe_int)) (pe_fn F_l_next (hr.mono (by decide)) (by rfl) (pa_cons (pv 0) (pa_cons (pe_op op_pow pe_int pe_int) pa_nil)))))))
      (pss_one (ps_ret (pe_op op_mod (pv 2) (pv 1))))))), ?_⟩
  refine ⟨_, rfl, p, _, _, _, rfl, rfl, SqL.of hp, rfl, _, _, rfl, rfl, _, rfl, ?_⟩
  refine ite2 (fun _ => ?_) (fun _ => ?_)
  · exact ⟨_, rfl, _, rfl, p, b, rfl, pl, h0, hlt, q⟩
  · refine ⟨5, rfl, by decide, by decide, ?_⟩
    refine for_range (lo := 0) (n := 5) (fun i σ H' => (∃ f o3, σ = [some (.ref p), some (.int b), some (.int f), o3]) ∧ Sb p H H' ∧ Pl H' p) ⟨⟨_, _, rfl⟩, .refl, pl⟩ ?_ ?_
    · rintro i σ H' hi ⟨⟨f, o3, rfl⟩, sb, pl'⟩
      refine ⟨_, rfl, _, _, rfl, rfl, ⟨by decide, by decide, by decide⟩, _, _, rfl, rfl, .inr ⟨by decide, by decide⟩, _, rfl, _, _, rfl, rfl, ⟨by decide, by decide, by decide⟩, p, _, rfl, pl', (by decide), (by decide), fun v H2 s2 p2 _ _ => ?_⟩
      exact ⟨_, _, rfl, rfl, ⟨_, _, rfl⟩, sb.trans s2, p2⟩
    · rintro σ H' ⟨⟨f, o3, rfl⟩, sb, pl'⟩
      exact ⟨_, rfl, _, rfl, _, _, rfl, rfl, h0, q _ _ sb pl' (Int.emod_nonneg _ (by omega)) (Int.emod_lt_of_pos _ h0)⟩
/-! ### _law_moment -/
def sp_l_moment : Sp := fun vs H Q _ => ∃ (p : Addr) (z : Int), vs = [.ref p, .int z] ∧ Pl H p ∧ 0 ≤ z ∧ z < 5 ∧ ∀ v H', Sb p H H' → Pl H' p → Q (.int v) H'
theorem sc_l_moment : FnScope ["pool", "size"] ["pool", "size"] (defScope s_l_moment) := ⟨rfl, rfl, rfl, by decide +kernel, rfl, by decide +kernel, by decide +kernel⟩
theorem ok_l_moment (hh : Here K mg "_law_moment" s_l_moment) (T : Tp K mg) (F_l_next : Fn P w K mg base CX0 1 "_law_next" ["pool", "base"] sp_l_next) (F_l_wide : Fn P w K mg base CX0 2 "_law_wide" ["pool", "base"] sp_l_wide) : Fn P w K mg base CX0 3 "_law_moment" ["pool", "size"] sp_l_moment := by
  refine fn_mk hh sc_l_moment (fun vs H Q E h => ?_) (fun _ _ _ _ _ _ us hl => match us, hl with | [_, _], _ => rfl) (fun f cdv A outer s H vs Q E hr h => ?_)
  · obtain ⟨p, z, rfl, _⟩ := h
    rfl
  obtain ⟨p, z, rfl, pl, h0, h5, q⟩ := h
  refine ⟨_, (pss_cons (ps_if (pt_cmpR op_eq (pv 1) pe_int (nomark _))
        (pss_one (ps_ret (pe_op op_sub (pe_fn F_l_wide (hr.mono (by decide)) (by rfl) (pa_cons (pv 0) (pa_cons (pe_op op_add (pe_op op_mul pe_int (pe_op op_pow pe_int pe_int)) pe_int) pa_nil))) (pe_op op_pow pe_int pe_int))))
        pss_nil)
      (pss_cons (ps_if (pt_cmpR op_eq (pv 1) pe_int (nomark _))
        (pss_one (ps_ret (pe_op op_mul pe_int (pe_fn F_l_next (hr.mono (by decide)) (by rfl) (pa_cons (pv 0) (pa_cons pe_int pa_nil))))))
        pss_nil)
      (pss_one (ps_ret (pe_op op_sub (pe_fn F_l_next (hr.mono (by decide)) (by rfl) (pa_cons (pv 0) (pa_cons (pe_ix ix_list (pe_lst (pa_cons pe_int (pa_cons pe_int (pa_cons pe_int (pa_cons pe_int pa_nil))))) (pv 1) (fun _ _ => rfl)) pa_nil))) (pe_ix ix_list (pe_lst (pa_cons pe_int (pa_cons pe_int (pa_cons pe_int (pa_cons pe_int pa_nil))))) (pv 1) (fun _ _ => rfl))))))), ?_⟩
  refine ⟨_, rfl, rfl, _, rfl, ?_⟩
  refine ite2 (fun _ => ?_) (fun n4 => ?_)
  · refine ⟨_, rfl, _, _, rfl, rfl, ⟨by decide, by decide, by decide⟩, _, _, rfl, rfl, .inl ⟨by decide, by decide⟩, _, _, rfl, rfl, p, _, rfl, pl, by decide, by decide, fun v H2 s2 p2 _ _ => ?_⟩
    exact ⟨_, _, rfl, rfl, ⟨by decide, by decide, by decide⟩, _, _, rfl, rfl, q _ _ s2 p2⟩
  refine ⟨_, rfl, rfl, _, rfl, ?_⟩
  refine ite2 (fun _ => ?_) (fun n2 => ?_)
  · refine ⟨_, rfl, p, _, rfl, pl, by decide, by decide, fun v H2 s2 p2 _ _ => ?_⟩
    exact ⟨_, _, rfl, rfl, .inl ⟨by decide, by decide⟩, q _ _ s2 p2⟩
  · have hz : z = 0 ∨ z = 1 ∨ z = 2 ∨ z = 3 := by
      have : z ≠ 4 := fun e => n4 (decide_eq_true (by rw [e]))
      omega
    refine ⟨_, rfl, (by show 4 ≤ sizeLine; decide), fun p1 n1 => gen n1 fun H1 s1 e1 => ?_⟩
    have pl1 : Pl H1 p := by
      obtain ⟨x, y, u, e⟩ := pl
      exact ⟨x, y, u, s1 _ _ e⟩
    rcases hz with rfl | rfl | rfl | rfl
    · refine ⟨_, rfl, p1, _, _, _, rfl, rfl, SqL.of e1, rfl, p, _, rfl, pl1, by decide, by decide, fun v H2 s2 p2 _ _ => ?_⟩
      refine ⟨(by show 4 ≤ sizeLine; decide), fun p3 n3 => gen n3 fun H3 s3 e3 => ?_⟩
      exact ⟨_, rfl, p3, _, _, _, rfl, rfl, SqL.of e3, rfl, _, _, rfl, rfl, q _ _ (((Sb.of s1).trans s2).trans (.of s3)) (by obtain ⟨x, y, u, e⟩ := p2; exact ⟨x, y, u, s3 _ _ e⟩)⟩
    · refine ⟨_, rfl, p1, _, _, _, rfl, rfl, SqL.of e1, rfl, p, _, rfl, pl1, by decide, by decide, fun v H2 s2 p2 _ _ => ?_⟩
      refine ⟨(by show 4 ≤ sizeLine; decide), fun p3 n3 => gen n3 fun H3 s3 e3 => ?_⟩
      exact ⟨_, rfl, p3, _, _, _, rfl, rfl, SqL.of e3, rfl, _, _, rfl, rfl, q _ _ (((Sb.of s1).trans s2).trans (.of s3)) (by obtain ⟨x, y, u, e⟩ := p2; exact ⟨x, y, u, s3 _ _ e⟩)⟩
    · refine ⟨_, rfl, p1, _, _, _, rfl, rfl, SqL.of e1, rfl, p, _, rfl, pl1, by decide, by decide, fun v H2 s2 p2 _ _ => ?_⟩
      refine ⟨(by show 4 ≤ sizeLine; decide), fun p3 n3 => gen n3 fun H3 s3 e3 => ?_⟩
      exact ⟨_, rfl, p3, _, _, _, rfl, rfl, SqL.of e3, rfl, _, _, rfl, rfl, q _ _ (((Sb.of s1).trans s2).trans (.of s3)) (by obtain ⟨x, y, u, e⟩ := p2; exact ⟨x, y, u, s3 _ _ e⟩)⟩
    · refine ⟨_, rfl, p1, _, _, _, rfl, rfl, SqL.of e1, rfl, p, _, rfl, pl1, by decide, by decide, fun v H2 s2 p2 _ _ => ?_⟩
      refine ⟨(by show 4 ≤ sizeLine; decide), fun p3 n3 => gen n3 fun H3 s3 e3 => ?_⟩
      exact ⟨_, rfl, p3, _, _, _, rfl, rfl, SqL.of e3, rfl, _, _, rfl, rfl, q _ _ (((Sb.of s1).trans s2).trans (.of s3)) (by obtain ⟨x, y, u, e⟩ := p2; exact ⟨x, y, u, s3 _ _ e⟩)⟩
end
end Wm
end
section
set_option Elab.async false
set_option linter.all false
set_option maxRecDepth 100000
set_option maxHeartbeats 4000000
namespace Wm
open PySem PySem.Spec PyProof.Rows L2
theorem Pl.same {H H' : Hp} {p : Addr} (h : Pl H p) (s : Same H H') : Pl H' p := by
  obtain ⟨x, y, u, e⟩ := h
  exact ⟨x, y, u, s _ _ e⟩
abbrev six (a b c d e f : Int) : List V := [.int a, .int b, .int c, .int d, .int e, .int f]
theorem pick6 {n : Int} (h0 : 0 ≤ n) (h6 : n < 6) {a b c d e f : Int} {lo hi : Int} (ha : lo ≤ a ∧ a ≤ hi) (hb : lo ≤ b ∧ b ≤ hi) (hc : lo ≤ c ∧ c ≤ hi) (hd : lo ≤ d ∧ d ≤ hi) (he : lo ≤ e ∧ e ≤ hi) (hf : lo ≤ f ∧ f ≤ hi) :
    ∃ z, atI (six a b c d e f) n = some (.int z) ∧ lo ≤ z ∧ z ≤ hi := by
  have : n = 0 ∨ n = 1 ∨ n = 2 ∨ n = 3 ∨ n = 4 ∨ n = 5 := by omega
  rcases this with rfl | rfl | rfl | rfl | rfl | rfl
  · exact ⟨a, rfl, ha⟩
  · exact ⟨b, rfl, hb⟩
  · exact ⟨c, rfl, hc⟩
  · exact ⟨d, rfl, hd⟩
  · exact ⟨e, rfl, he⟩
  · exact ⟨f, rfl, hf⟩
section
variable {P : Program} {w : World} {K : PySem.W.Frag} {mg : Str → Option Value} {base : Heap}
/-! ### _law_rest -/
def sp_l_rest : Sp := fun vs H Q _ => ∃ p : Addr, vs = [.ref p] ∧ Pl H p ∧ ∀ v H', Sb p H H' → Pl H' p → 0 ≤ v → v ≤ 1000000000 → Q (.int v) H'
theorem sc_l_rest : FnScope ["pool"] ["pool"] (defScope s_l_rest) := ⟨rfl, rfl, rfl, by decide +kernel, rfl, by decide +kernel, by decide +kernel⟩
theorem ok_l_rest (hh : Here K mg "_law_rest" s_l_rest) (T : Tp K mg) (F_l_next : Fn P w K mg base CX0 1 "_law_next" ["pool", "base"] sp_l_next) : Fn P w K mg base CX0 2 "_law_rest" ["pool"] sp_l_rest := by
  refine fn_mk hh sc_l_rest (fun vs H Q E h => ?_) (fun _ _ _ _ _ _ us hl => match us, hl with | [_], _ => rfl) (fun f cdv A outer s H vs Q E hr h => ?_)
  · obtain ⟨p, rfl, _⟩ := h
    rfl
  obtain ⟨p, rfl, pl, q⟩ := h
  refine ⟨_, (pss_one (ps_ret (pe_ix ix_list (pe_lst (pa_cons pe_int (pa_cons pe_int (pa_cons pe_int (pa_cons pe_int (pa_cons (pe_op op_sub (pe_op op_pow pe_int pe_int) (pe_fn F_l_next (hr.mono (by decide)) (by rfl) (pa_cons (pv 0) (pa_cons pe_int pa_nil)))) (pa_cons (pe_fn F_l_next (hr.mono (by decide)) (by rfl) (pa_cons (pv 0) (pa_cons pe_int pa_nil))) pa_nil))))))) (pe_fn F_l_next (hr.mono (by decide)) (by rfl) (pa_cons (pv 0) (pa_cons pe_int pa_nil))) (fun _ _ => rfl)))), ?_⟩
  refine ⟨_, _, rfl, rfl, ⟨by decide, by decide, by decide⟩, _, rfl, p, _, rfl, pl, by decide, by decide, fun v1 H1 s1 p1 l1 u1 => ?_⟩
  refine ⟨_, _, rfl, rfl, _, rfl, p, _, rfl, p1, by decide, by decide, fun v2 H2 s2 p2 l2 u2 => ?_⟩
  refine ⟨(by show 6 ≤ sizeLine; decide), fun pL nL => gen nL fun H3 s3 e3 => ?_⟩
  refine ⟨_, rfl, p, _, rfl, p2.same s3, by decide, by decide, fun v3 H4 s4 p4 l3 u3 => ?_⟩
  have ne : pL ≠ p := by
    obtain ⟨_, _, _, e⟩ := p2
    exact (ne_of_none e nL).symm
  obtain ⟨z, hz, lo, hi⟩ := pick6 (lo := 0) (hi := 1000000000) l3 u3 (a := 0) (b := 1) (c := 2) (d := 3) (e := (10 : Int) ^ (9 : Int).toNat - v1) (f := v2) (by omega) (by omega) (by omega) (by omega) (by
    have : (10 : Int) ^ (9 : Int).toNat = 1000000000 := by decide
    omega) (by omega)
  exact ⟨pL, _, _, _, rfl, rfl, SqL.of (s4 _ _ ne e3), hz, q z H4 (((s1.trans s2).trans (.of s3)).trans s4) p4 lo hi⟩
/-! ### _law_order -/
def sp_l_order : Sp := fun vs H Q _ => ∃ (p : Addr) (m : Nat), vs = [.ref p, nV m] ∧ Pl H p ∧ m ≤ 7 ∧ ∀ t H' (os : List Nat), Sb p H H' → Pl H' p → H' t = some (.tup (os.map nV)) → os.Perm (List.range m) → Q (.ref t) H'
theorem sc_l_order : FnScope ["pool", "many", "order", "place"] ["pool", "many"] (defScope s_l_order) := ⟨rfl, rfl, rfl, by decide +kernel, rfl, by decide +kernel, by decide +kernel⟩
theorem ok_l_order (hh : Here K mg "_law_order" s_l_order) (T : Tp K mg) (F_l_next : Fn P w K mg base CX0 1 "_law_next" ["pool", "base"] sp_l_next) : Fn P w K mg base CX0 2 "_law_order" ["pool", "many"] sp_l_order := by
  refine fn_mk hh sc_l_order (fun vs H Q E h => ?_) (fun _ _ _ _ _ _ us hl => match us, hl with | [_, _], _ => rfl) (fun f cdv A outer s H vs Q E hr h => ?_)
  · obtain ⟨p, m, rfl, _⟩ := h
    rfl
  obtain ⟨p, m, rfl, pl, hm, q⟩ := h
  refine ⟨_, (pss_cons (ps_set (i := 2) sc_l_order.nd rfl (.inl rfl) (pe_lst pa_nil))
      (pss_cons (ps_for PassesOwn.never rfl (pi_range1 (by rfl) T.range (pa_cons (pv 1) pa_nil)) (pg_name (i := 3) sc_l_order.nd rfl (.inl rfl))
        (pss_one (ps_expr (pe_bm PySem.F.plainAttrs_list PySem.F.slot_list_insert PySem.F.type_list_insert mt_insert (pv 2) (pa_cons (pe_fn F_l_next (hr.mono (by decide)) (by rfl) (pa_cons (pv 0) (pa_cons (pe_op op_add (pv 3) pe_int) pa_nil))) (pa_cons (pv 3) pa_nil))))))
      (pss_one (ps_ret (pe_callTy call_tuple_of (by rfl) T.tuple (by decide +kernel) (pa_cons (pv 2) pa_nil)))))), ?_⟩
  refine ⟨Nat.zero_le _, fun l nl => gen nl fun H1 s1 e1 => ?_⟩
  have ne : l ≠ p := by
    obtain ⟨_, _, _, e⟩ := pl
    exact (ne_of_none e nl).symm
  refine ⟨_, rfl, _, rfl, by omega, by omega, ?_⟩
  refine for_range (lo := 0) (n := m) (fun i σ H' => (∃ o3, σ = [some (.ref p), some (nV m), some (.ref l), o3]) ∧ Sb p H H' ∧ Pl H' p ∧ ∃ os : List Nat, H' l = some (.lst (os.map nV)) ∧ os.Perm (List.range i)) ⟨⟨_, rfl⟩, .of s1, pl.same s1, [], e1, .nil⟩ ?_ ?_
  · rintro i σ H' hi ⟨⟨o3, rfl⟩, sb, pl', os, hl, pm⟩
    rw [Int.zero_add]
    have hlen : os.length = i := by rw [pm.length_eq, List.length_range]
    refine ⟨_, rfl, .inl ⟨rfl, _, SqL.of hl⟩, _, rfl, _, rfl, _, _, rfl, rfl, p, _, rfl, pl', by omega, by omega, fun v H2 s2 p2 l2 u2 => ?_⟩
    have hl2 := s2 _ _ ne hl
    refine ⟨_, rfl, l, _, _, _, rfl, rfl, hl2, z100' (by rw [List.length_map]; omega), l2, by omega, ⟨_, rfl⟩, ?_, ?_, os.take v.toNat ++ [i] ++ os.drop v.toNat, ?_, ?_⟩
    · refine fun b u n h => ?_
      by_cases hb : b = l
      · exfalso
        rw [hb, nl] at h
        cases h
      · rw [upd_ne hb]
        exact s2 _ _ n (sb _ _ n h)
    · obtain ⟨x, y, u, e⟩ := p2
      exact ⟨x, y, u, by rw [upd_ne ne.symm]; exact e⟩
    · rw [upd_same, List.map_append, List.map_append, List.map_take, List.map_drop]
      rfl
    · rw [List.range_succ]
      refine (List.Perm.trans ?_ ((pm.append_right [i])))
      have tk : (os.take v.toNat ++ (os.drop v.toNat ++ [i])) = os ++ [i] := by rw [← List.append_assoc, List.take_append_drop]
      rw [← tk, List.append_assoc]
      exact List.Perm.append_left _ List.perm_append_comm
  · rintro σ H' ⟨⟨o3, rfl⟩, sb, pl', os, hl, pm⟩
    refine ⟨_, rfl, l, _, rfl, .inl ⟨SqL.of hl, fun t nt => gen nt fun H4 s4 e4 => ?_⟩⟩
    exact q t H4 os (sb.trans (.of s4)) (pl'.same s4) e4 pm
/-! ### _law_put_off -/
def sp_l_put_off : Sp := fun vs H Q _ => ∃ (a : Addr) (c : List (Option Int)) (d : Int), vs = [.ref a, .int d] ∧ OL H a c ∧ c.length ≤ 1000 ∧ ∀ p H', H p = none → Same H H' → OL H' p (c.map (Option.map (· + d))) → Q (.ref p) H'
theorem sc_l_put_off : FnScope ["moments", "by", "found", "moment"] ["moments", "by"] (defScope s_l_put_off) := ⟨rfl, rfl, rfl, by decide +kernel, rfl, by decide +kernel, by decide +kernel⟩
theorem ok_l_put_off (hh : Here K mg "_law_put_off" s_l_put_off) (T : Tp K mg)  : Fn P w K mg base CX0 1 "_law_put_off" ["moments", "by"] sp_l_put_off := by
  refine fn_mk hh sc_l_put_off (fun vs H Q E h => ?_) (fun _ _ _ _ _ _ us hl => match us, hl with | [_, _], _ => rfl) (fun f cdv A outer s H vs Q E hr h => ?_)
  · obtain ⟨a, c, d, rfl, _⟩ := h
    rfl
  obtain ⟨a, c, d, rfl, hc, hlt, q⟩ := h
  refine ⟨_, (pss_cons (ps_set (i := 2) sc_l_put_off.nd rfl (.inl rfl) (pe_lst pa_nil))
      (pss_cons (ps_for PassesOwn.never rfl (pi_list (pv 0)) (pg_name (i := 3) sc_l_put_off.nd rfl (.inl rfl))
        (pss_one (ps_if (pt_cmpR op_isN (pv 3) pe_non (nomark _))
          (pss_one (ps_expr (pe_bm PySem.F.plainAttrs_list PySem.F.slot_list_append PySem.F.type_list_append mt_append (pv 2) (pa_cons pe_non pa_nil))))
          (pss_one (ps_expr (pe_bm PySem.F.plainAttrs_list PySem.F.slot_list_append PySem.F.type_list_append mt_append (pv 2) (pa_cons (pe_op op_add (pv 3) (pv 1)) pa_nil)))))))
      (pss_one (ps_ret (pv 2))))), ?_⟩
  refine ⟨Nat.zero_le _, fun l nl => gen nl fun H1 s1 e1 => ?_⟩
  refine ⟨_, rfl, a, rfl, ⟨_, SqL.of (s1 _ _ hc)⟩, for_list (K := K) (a := a) (xs := c.map oV) (fun i σ H' => (∃ o3, σ = [some (.ref a), some (.int d), some (.ref l), o3]) ∧ Same H H' ∧ OL H' l ((c.take i).map (Option.map (· + d))))
    ⟨⟨_, rfl⟩, s1, e1⟩ (fun i σ H' _ pv => SqL.of (pv.2.1 _ _ hc)) ?_ ?_⟩
  · rintro i x σ H' hi ⟨⟨o3, rfl⟩, sm, hl⟩
    have hi' : i < c.length := by
      have := (List.getElem?_eq_some_iff.mp hi).1
      rwa [List.length_map] at this
    have hci : c[i]? = some c[i] := List.getElem?_eq_getElem hi'
    have ex : x = oV c[i] := by
      rw [List.getElem?_map, hci] at hi
      exact (Option.some.inj hi).symm
    subst ex
    have nx : ∀ H2, H2 = upd H' l (.lst ((((c.take i).map (Option.map (· + d))).map oV) ++ [oV (c[i].map (· + d))])) → Same H H2 ∧ OL H2 l ((c.take (i + 1)).map (Option.map (· + d))) := fun H2 e => by
      subst e
      refine ⟨same_past sm nl, ?_⟩
      show _ = some (HO.lst _)
      rw [upd_same, List.take_add_one, hci, List.map_append, List.map_append]
      rfl
    have hlen : (((c.take i).map (Option.map (· + d))).map oV).length < 100000 := by
      rw [List.length_map, List.length_map, List.length_take]
      omega
    cases hq : c[i] with
    | none =>
      rw [hq] at nx
      refine ⟨_, rfl, rfl, _, rfl, iteT ⟨_, rfl, .inl ⟨rfl, _, SqL.of hl⟩, l, _, _, rfl, rfl, hl, z100' hlen, ⟨_, rfl⟩, nx _ rfl⟩⟩
    | some t =>
      rw [hq] at nx
      refine ⟨_, rfl, rfl, _, rfl, iteF ⟨_, rfl, .inl ⟨rfl, _, SqL.of hl⟩, _, rfl, _, rfl, _, _, rfl, rfl, l, _, _, rfl, rfl, hl, z100' hlen, ⟨_, rfl⟩, nx _ rfl⟩⟩
  · rintro σ H' ⟨⟨o3, rfl⟩, sm, hl⟩
    rw [List.length_map, List.take_length] at hl
    exact ⟨_, rfl, q l H' nl sm hl⟩
/-! ### _law_no_sooner -/
def sp_l_no_sooner : Sp := fun vs H Q _ => ∃ (a b : Addr) (m l : List (Option Int)), vs = [.ref a, .ref b] ∧ OL H a m ∧ OL H b l ∧ m.length = l.length ∧ NoSooner m l ∧ ∀ H', Same H H' → Q (.bl true) H'
theorem sc_l_no_sooner : FnScope ["more", "less", "one", "other"] ["more", "less"] (defScope s_l_no_sooner) := ⟨rfl, rfl, rfl, by decide +kernel, rfl, by decide +kernel, by decide +kernel⟩
theorem ok_l_no_sooner (hh : Here K mg "_law_no_sooner" s_l_no_sooner) (T : Tp K mg)  : Fn P w K mg base CX0 1 "_law_no_sooner" ["more", "less"] sp_l_no_sooner := by
  refine fn_mk hh sc_l_no_sooner (fun vs H Q E h => ?_) (fun _ _ _ _ _ _ us hl => match us, hl with | [_, _], _ => rfl) (fun f cdv A outer s H vs Q E hr h => ?_)
  · obtain ⟨a, b, m, l, rfl, _⟩ := h
    rfl
  obtain ⟨a, b, m, l, rfl, ha, hb, hl, hns, q⟩ := h
  refine ⟨_, (pss_cons (ps_for PassesOwn.never rfl (pi_zip (by rfl) T.zip (pa_cons (pv 0) (pa_cons (pv 1) pa_nil))) (pg_tup rfl (pgs_cons (pg_name (i := 2) sc_l_no_sooner.nd rfl (.inl rfl)) (pgs_cons (pg_name (i := 3) sc_l_no_sooner.nd rfl (.inl rfl)) pgs_nil)))
        (pss_one (ps_if (PW.pt (pw_and (pt_cmpR op_notN (pv 3) pe_non (nomark _)) (pw_and1 (PW.pt (pw_or (pt_cmpR op_isN (pv 2) pe_non (nomark _)) (pw_or1 (pt_cmpR op_lt (pv 2) (pv 3) (nomark _))))))))
          (pss_one (ps_ret pe_bl))
          pss_nil)))
      (pss_one (ps_ret pe_bl))), ?_⟩
  refine ⟨_, rfl, _, rfl, a, b, _, _, rfl, SqL.of ha, SqL.of hb, RZ.for_zipL (K := K) (a := a) (b := b) (xs := m.map oV) (ys := l.map oV) (by rw [List.length_map, List.length_map, hl]) (fun i σ H' => (∃ o2 o3, σ = [some (.ref a), some (.ref b), o2, o3]) ∧ Same H H') ⟨⟨_, _, rfl⟩, .refl _⟩
    (fun i σ H' pv => ⟨SqL.of (pv.2 _ _ ha), SqL.of (pv.2 _ _ hb)⟩) ?_ ?_⟩
  · rintro i x y T σ H' hx hy ⟨⟨o2, o3, rfl⟩, sm⟩ nT
    have sT := same_new (.tup [x, y]) nT
    have hm : i < m.length := by
      have := (List.getElem?_eq_some_iff.mp hx).1
      rwa [List.length_map] at this
    have hmi : m[i]? = some m[i] := List.getElem?_eq_getElem hm
    have hli : l[i]? = some (l[i]'(by omega)) := List.getElem?_eq_getElem _
    rw [List.getElem?_map, hmi] at hx
    rw [List.getElem?_map, hli] at hy
    have ex := Option.some.inj hx
    have ey := Option.some.inj hy
    subst ex ey
    refine ⟨T, _, rfl, SqT.of upd_same, rfl, _, _, rfl, _, _, rfl, rfl, ?_⟩
    have nx : Same H (upd H' T (.tup [oV m[i], oV (l[i]'(by omega))])) := sm.trans sT
    cases ql : l[i]'(by omega) with
    | none =>
      rw [ql] at nx
      exact ⟨_, rfl, rfl, _, rfl, iteF (iteF ⟨⟨_, _, rfl⟩, nx⟩)⟩
    | some t =>
      rw [ql] at hli
      obtain ⟨y, hy, le⟩ := hns i t hli
      rw [hmi] at hy
      have ey := Option.some.inj hy
      rw [ey, ql] at nx
      rw [ey]
      refine ⟨_, rfl, rfl, _, rfl, iteT ⟨_, rfl, rfl, _, rfl, iteF ⟨_, rfl, _, rfl, _, _, rfl, rfl, _, rfl, ?_⟩⟩⟩
      have : decide (y < t) = false := decide_eq_false (by omega)
      rw [this]
      exact iteF ⟨⟨_, _, rfl⟩, nx⟩
  · rintro σ H' ⟨⟨o2, o3, rfl⟩, sm⟩
    exact q H' sm
end
end Wm
end
section
set_option Elab.async false
set_option linter.all false
set_option maxRecDepth 100000
set_option maxHeartbeats 4000000
namespace Wm
open PySem PySem.Spec PyProof.Rows L2
theorem cut_map (cs : List Int) (lo hi : Option Int) : ∃ cs' : List Int, cutV (cs.map V.int) lo hi = cs'.map V.int ∧ cs'.length ≤ cs.length := by
  unfold cutV
  refine ⟨_, by rw [← List.map_drop, ← List.map_take], ?_⟩
  rw [List.length_take, List.length_drop]
  omega
theorem iGet {ns : List Int} {i : Nat} (h : i < ns.length) : atI (ns.map V.int) (i : Int) = some (.int ns[i]) := atI_nat (by
  rw [List.getElem?_map, List.getElem?_eq_getElem h]
  rfl)
section
variable {P : Program} {w : World} {K : PySem.W.Frag} {mg : Str → Option Value} {base : Heap}
/-! ### _law_folded -/
def sp_l_folded (K : PySem.W.Frag) : Sp := fun vs H Q _ => ∃ (a : Addr) (ns : List Int), vs = [.ref a, .int 8] ∧ SqL K H a (ns.map V.int) ∧ ns.length ≤ 63 ∧ ∀ p H' (cs : List Int), H p = none → Same H H' → H' p = some (.lst (cs.map V.int)) → cs.length ≤ 8 → Q (.ref p) H'
theorem sc_l_folded : FnScope ["script", "most", "cells", "k"] ["script", "most"] (defScope s_l_folded) := ⟨rfl, rfl, rfl, by decide +kernel, rfl, by decide +kernel, by decide +kernel⟩
theorem ok_l_folded (hh : Here K mg "_law_folded" s_l_folded) (T : Tp K mg)  : Fn P w K mg base CX0 1 "_law_folded" ["script", "most"] (sp_l_folded K) := by
  refine fn_mk hh sc_l_folded (fun vs H Q E h => ?_) (fun _ _ _ _ _ _ us hl => match us, hl with | [_, _], _ => rfl) (fun f cdv A outer s H vs Q E hr h => ?_)
  · obtain ⟨a, ns, rfl, _⟩ := h
    rfl
  obtain ⟨a, ns, rfl, hS, h63, q⟩ := h
  refine ⟨_, (pss_cons (ps_set (i := 2) sc_l_folded.nd rfl (.inl rfl) (pe_op op_rep (pe_lst (pa_cons pe_int pa_nil)) (pv 1)))
      (pss_cons (ps_for PassesOwn.never rfl (pi_range1 (by rfl) T.range (pa_cons (pe_callB call_len_seq (by rfl) T.len PySem.boot_len (pa_cons (pv 0) pa_nil)) pa_nil)) (pg_name (i := 3) sc_l_folded.nd rfl (.inl rfl))
        (pss_one (ps_asg (pe_op op_add (pe_op op_mul (pe_op op_mod (pe_ix ix_list (pv 2) (pe_op op_mod (pv 3) (pv 1)) (fun _ _ => rfl)) (pe_op op_pow pe_int pe_int)) pe_int) (pe_ix ix_list (pv 0) (pv 3) (fun _ _ => rfl))) (pg_sub (pv 2) (pe_op op_mod (pv 3) (pv 1)) set_list))))
      (pss_one (ps_ret (pe_slice sl_list (pv 2) po_none (po_some (pe_callB (call_min2 rfl) (by rfl) T.min (by decide +kernel) (pa_cons (pe_callB call_len_seq (by rfl) T.len PySem.boot_len (pa_cons (pv 0) pa_nil)) (pa_cons (pv 1) pa_nil))))))))), ?_⟩
  refine ⟨(by show 1 ≤ sizeLine; decide), fun p1 n1 => gen n1 fun H1 s1 e1 => ?_⟩
  refine ⟨_, rfl, p1, 8, _, rfl, rfl, e1, by decide, by decide, (by show 1 * 8 ≤ sizeLine; decide), fun l nl => gen nl fun H2 s2 e2 => ?_⟩
  have e2' : H2 l = some (.lst (([0, 0, 0, 0, 0, 0, 0, 0] : List Int).map V.int)) := e2
  have s12 := s1.trans s2
  have nlH := s1.free nl
  refine ⟨_, rfl, a, _, rfl, .inl (s12.seq hS), _, rfl, by omega, by rw [List.length_map]; omega, ?_⟩
  rw [List.length_map, Int.toNat_natCast]
  refine for_range (lo := 0) (n := ns.length) (fun i σ H' => (∃ o3, σ = [some (.ref a), some (.int 8), some (.ref l), o3]) ∧ Same H H' ∧ ∃ cs : List Int, H' l = some (.lst (cs.map V.int)) ∧ cs.length = 8) ⟨⟨_, rfl⟩, s12, _, e2', rfl⟩ ?_ ?_
  · rintro i σ H' hi ⟨⟨o3, rfl⟩, sm, cs, hl, h8⟩
    rw [Int.zero_add]
    have ek : (i : Int) % 8 = ((i % 8 : Nat) : Int) := by omega
    have hk : i % 8 < cs.length := by omega
    have g1 : atI (cs.map V.int) ((i : Int) % 8) = some (.int cs[i % 8]) := by rw [ek]; exact iGet hk
    have g2 : ixN (cs.map V.int).length ((i : Int) % 8) = some (i % 8) := by rw [ek]; exact ixN_nat (by rw [List.length_map]; exact hk)
    refine ⟨_, rfl, _, rfl, _, rfl, _, _, rfl, rfl, (show (0 : Int) < 8 by decide), l, _, _, _, rfl, rfl, SqL.of hl, g1, _, _, rfl, rfl, ⟨by decide, by decide, by decide⟩, _, _, rfl, rfl, (show (0 : Int) < 10 ^ (64 : Int).toNat by decide), _, _, rfl, rfl, .inr ⟨by decide, by decide⟩, ?_⟩
    refine ⟨_, rfl, _, rfl, a, _, _, _, rfl, rfl, sm.seq hS, iGet hi, _, _, rfl, rfl, ?_⟩
    refine ⟨_, rfl, _, rfl, _, rfl, _, _, rfl, rfl, (show (0 : Int) < 8 by decide), l, _, _, _, rfl, rfl, hl, g2, ⟨_, rfl⟩, same_past sm nlH, cs.set (i % 8) (cs[i % 8] % 10 ^ Int.toNat 64 * 1000003 + ns[i]), ?_, by rw [List.length_set]; exact h8⟩
    rw [upd_same, List.map_set]
  · rintro σ H' ⟨⟨o3, rfl⟩, sm, cs, hl, h8⟩
    obtain ⟨cs', ec, hc⟩ := cut_map cs none (some (if 8 < (((ns.map V.int).length : Nat) : Int) then 8 else (((ns.map V.int).length : Nat) : Int)))
    refine ⟨_, rfl, _, rfl, a, _, rfl, .inl (sm.seq hS), _, rfl, _, _, rfl, _, rfl, l, _, rfl, SqL.of hl, fun p np => gen np fun H4 s4 e4 => ?_⟩
    rw [ec] at e4
    exact q p H4 cs' (sm.free np) (sm.trans s4) e4 (by omega)
/-! ### _law_web -/
theorem mem_putK {k : List Key} {v : V} {kvs : List (List Key × V)} {x : List Key × V} (h : x ∈ putK kvs k v) : x.1 = k ∨ ∃ y ∈ kvs, y.1 = x.1 := by
  unfold putK at h
  split at h
  · obtain ⟨y, hy, e⟩ := List.mem_map.mp h
    refine .inr ⟨y, hy, ?_⟩
    rw [← e]
    split <;> rfl
  · rcases List.mem_append.mp h with z | z
    · exact .inr ⟨x, z, rfl⟩
    · rw [List.mem_singleton.mp z]
      exact .inl rfl
def keyOf (s : Step) : List Key := [.inl s.1, .inl s.2.1, .inl s.2.2]
theorem keys_t3 {R : Step → Prop} {H : Hp} {kvs : List (List Key × V)} {bs : List Addr} (h : IsKeys H kvs bs) : (∀ x ∈ kvs, ∃ s, x.1 = keyOf s ∧ R s) → ∃ ss, T3s H (bs.map V.ref) ss ∧ (∀ s ∈ ss, R s) ∧ ss.length = kvs.length := by
  unfold IsKeys at h
  induction h with
  | nil => exact fun _ => ⟨[], .nil, fun s hs => (by cases hs), rfl⟩
  | @cons x b r t e _ ih =>
    intro hk
    obtain ⟨ss, h1, h2, h3⟩ := ih fun y hy => hk y (List.mem_cons_of_mem _ hy)
    obtain ⟨s, es, hs⟩ := hk x List.mem_cons_self
    rw [es] at e
    refine ⟨s :: ss, .cons ⟨b, rfl, e⟩ h1, fun r hr => ?_, by rw [List.length_cons, List.length_cons, h3]⟩
    rcases List.mem_cons.mp hr with z | z
    · rw [z]; exact hs
    · exact h2 r z
abbrev rMn : List V → Hp → VK → Prop := fun xs H Q => ∃ i j, xs = [.int i, .int j] ∧ Q (.int (if j < i then j else i)) H
abbrev rMx : List V → Hp → VK → Prop := fun xs H Q => ∃ i j, xs = [.int i, .int j] ∧ Q (.int (if j > i then j else i)) H
def t_meet : TS := tSeq (tAsg (tCall sp_l_next [] E0 (tCons (tVar 0) (tCons (tVar 1) tNil))) (gName 6))
  (tSeq (tAsg (tOp (rI (fun _ j => 0 < j) fun i j => .int (i % j)) (tOp (rI0 fun i j => .int (i + j)) (tOp (rI0 fun i j => .int (i + j)) (tVar 6) (tC (.int 1))) (tCall sp_l_next [] E0 (tCons (tVar 0) (tCons (tOp (rI0 fun i j => .int (i - j)) (tVar 1) (tC (.int 1))) tNil)))) (tVar 1)) (gName 7))
    (sDPut (tVar 3) (tTup (tCons (tVar 4) (tCons (tCB rMn (tCons (tVar 6) (tCons (tVar 7) tNil))) (tCons (tCB rMx (tCons (tVar 6) (tCons (tVar 7) tNil))) tNil)))) (tC (.bl true))))
theorem Sb.free {p b : Addr} {H H' : Hp} (s : Sb p H H') (n : b ≠ p) (h : H' b = none) : H b = none := by
  cases e : H b with
  | none => rfl
  | some o =>
    have := s b o n e
    rw [h] at this
    cases this
/-- keys so far -/
def Keys (H : Hp) (d : Addr) (m i : Nat) : Prop := ∃ kvs, H d = some (.dT kvs) ∧ kvs.length ≤ i ∧ ∀ x ∈ kvs, ∃ s, x.1 = keyOf s ∧ (s.2.1 < s.2.2 ∧ s.2.2 < m)
theorem two_places {u v m : Int} (h0 : 0 ≤ u) (h1 : u < m) (h2 : 0 ≤ v) (h3 : v < m - 1) : 0 ≤ (u + 1 + v) % m ∧ (u + 1 + v) % m < m ∧ (u + 1 + v) % m ≠ u := by
  refine ⟨Int.emod_nonneg _ (by omega), Int.emod_lt_of_pos _ (by omega), fun e => ?_⟩
  by_cases h : u + 1 + v < m
  · rw [Int.emod_eq_of_lt (by omega) h] at e
    omega
  · have : (u + 1 + v) % m = u + 1 + v - m := by
      rw [← Int.sub_emod_right, Int.emod_eq_of_lt (by omega) (by omega)]
    omega
theorem t_meet_ok {D : Ends} {H0 H : Hp} {p d : Addr} {m i : Nat} {z mo : Int} {o5 o6 o7 : Option V} (pl : Pl H p) (nd : d ≠ p) (nd0 : H0 d = none) (h2 : 2 ≤ m) (h7 : m ≤ 7) (hi : i ≤ 1000) (hk : Keys H d m i) (sb : Sb p H0 H)
    (nx : ∀ u v H', Sb p H0 H' → Pl H' p → Keys H' d m (i + 1) → D.nx [some (.ref p), some (nV m), some (.int z), some (.ref d), some (.int mo), o5, some u, some v] H') :
    t_meet D [some (.ref p), some (nV m), some (.int z), some (.ref d), some (.int mo), o5, o6, o7] H := by
  obtain ⟨kvs, hd, hlen, hkv⟩ := hk
  refine ⟨_, rfl, _, rfl, p, _, rfl, pl, by omega, by omega, fun u H1 s1 p1 l1 u1 => ?_⟩
  refine ⟨_, rfl, _, _, rfl, rfl, _, rfl, _, rfl, _, _, rfl, rfl, p, _, rfl, p1, by omega, by omega, fun v H2 s2 p2 l2 u2 => ?_⟩
  refine ⟨_, _, rfl, rfl, _, rfl, _, _, rfl, rfl, (show (0 : Int) < (m : Int) by omega), ?_⟩
  obtain ⟨g0, g1, g2⟩ := two_places l1 u1 l2 u2
  refine ⟨_, rfl, _, rfl, _, rfl, _, rfl, _, _, rfl, _, rfl, _, rfl, _, _, rfl, three_le, fun pT nT => gen nT fun H3 s3 e3 => ?_⟩
  have hd3 := s3 _ _ (s2 _ _ nd (s1 _ _ nd hd))
  generalize (u + 1 + v) % (m : Int) = r at g0 g1 g2 e3
  obtain ⟨un, rfl⟩ := Int.eq_ofNat_of_zero_le l1
  obtain ⟨rn, rfl⟩ := Int.eq_ofNat_of_zero_le g0
  have e3' : H3 pT = some (.tup ((keyOf (mo, min un rn, max un rn)).map kV)) := by
    rw [e3, min_if, max_if]
    rfl
  refine ⟨d, _, rfl, DPut.t hd3 e3' (z100' (by omega)), ?_⟩
  refine nx _ _ _ (fun b o n h => ?_) ?_ ⟨_, upd_same, ?_, fun x hx => ?_⟩
  · have : b ≠ d := fun e => by rw [e, nd0] at h; cases h
    rw [upd_ne this]
    exact s3 _ _ (s2 _ _ n (s1 _ _ n (sb _ _ n h)))
  · obtain ⟨a, b, c, e⟩ := p2.same s3
    exact ⟨a, b, c, by rw [upd_ne nd.symm]; exact e⟩
  · have := length_putK kvs (keyOf (mo, min un rn, max un rn)) (.bl true)
    omega
  · rcases mem_putK hx with e | ⟨y, hy, e⟩
    · refine ⟨_, e, ?_⟩
      show min un rn < max un rn ∧ max un rn < m
      omega
    · rw [← e]
      exact hkv y hy
def sp_l_web : Sp := fun vs H Q _ => ∃ p : Addr, vs = [.ref p] ∧ Pl H p ∧ ∀ v H' W, Sb p H H' → Pl H' p → WebAt H' v W → WebOk W → Q v H'
theorem sc_l_web : FnScope ["pool", "many", "size", "meets", "moment", "k", "one", "other"] ["pool"] (defScope s_l_web) := ⟨rfl, rfl, rfl, by decide +kernel, rfl, by decide +kernel, by decide +kernel⟩
theorem ok_l_web (hh : Here K mg "_law_web" s_l_web) (T : Tp K mg) (F_l_next : Fn P w K mg base CX0 1 "_law_next" ["pool", "base"] sp_l_next) (F_l_moment : Fn P w K mg base CX0 3 "_law_moment" ["pool", "size"] sp_l_moment) : Fn P w K mg base CX0 4 "_law_web" ["pool"] sp_l_web := by
  refine fn_mk hh sc_l_web (fun vs H Q E h => ?_) (fun _ _ _ _ _ _ us hl => match us, hl with | [_], _ => rfl) (fun f cdv A outer s H vs Q E hr h => ?_)
  · obtain ⟨p, rfl, _⟩ := h
    rfl
  obtain ⟨p, rfl, pl, q⟩ := h
  refine ⟨_, (pss_cons (ps_set (i := 1) sc_l_web.nd rfl (.inl rfl) (pe_op op_add pe_int (pe_fn F_l_next (hr.mono (by decide)) (by rfl) (pa_cons (pv 0) (pa_cons pe_int pa_nil)))))
      (pss_cons (ps_set (i := 2) sc_l_web.nd rfl (.inl rfl) (pe_fn F_l_next (hr.mono (by decide)) (by rfl) (pa_cons (pv 0) (pa_cons pe_int pa_nil))))
      (pss_cons (ps_set (i := 3) sc_l_web.nd rfl (.inl rfl) pe_dnewT)
      (pss_cons (ps_set (i := 4) sc_l_web.nd rfl (.inl rfl) pe_int)
      (pss_cons (ps_for PassesOwn.never rfl (pi_range1 (by rfl) T.range (pa_cons (pe_fn F_l_next (hr.mono (by decide)) (by rfl) (pa_cons (pv 0) (pa_cons pe_int pa_nil))) pa_nil)) (pg_name (i := 5) sc_l_web.nd rfl (.inl rfl))
        (pss_one (ps_if (pt_cmpR op_gt (pv 1) pe_int (nomark _))
          (pss_cons (ps_if (PW.pt (pw_or (pt_cmpR op_eq (pv 5) pe_int (nomark _)) (pw_or1 (pt_cmpR op_gt (pe_fn F_l_next (hr.mono (by decide)) (by rfl) (pa_cons (pv 0) (pa_cons pe_int pa_nil))) pe_int (nomark _)))))
            (pss_one (ps_set (i := 4) sc_l_web.nd rfl (.inl rfl) (pe_fn F_l_moment (hr.mono (by decide)) (by rfl) (pa_cons (pv 0) (pa_cons (pv 2) pa_nil)))))
            pss_nil)
          (pss_cons (ps_set (i := 6) sc_l_web.nd rfl (.inl rfl) (pe_fn F_l_next (hr.mono (by decide)) (by rfl) (pa_cons (pv 0) (pa_cons (pv 1) pa_nil))))
          (pss_cons (ps_set (i := 7) sc_l_web.nd rfl (.inl rfl) (pe_op op_mod (pe_op op_add (pe_op op_add (pv 6) pe_int) (pe_fn F_l_next (hr.mono (by decide)) (by rfl) (pa_cons (pv 0) (pa_cons (pe_op op_sub (pv 1) pe_int) pa_nil)))) (pv 1)))
          (pss_one (ps_dput (hu_of hr) (pv 3) (pe_tup (pa_cons (pv 4) (pa_cons (pe_callB (call_min2 rfl) (by rfl) T.min (by decide +kernel) (pa_cons (pv 6) (pa_cons (pv 7) pa_nil))) (pa_cons (pe_callB (call_max2 rfl) (by rfl) T.max (by decide +kernel) (pa_cons (pv 6) (pa_cons (pv 7) pa_nil))) pa_nil)))) pe_bl rfl)))))
          pss_nil)))
      (pss_one (ps_ret (pe_tup (pa_cons (pv 1) (pa_cons (pe_callTy call_tuple_of (by rfl) T.tuple (by decide +kernel) (pa_cons (pe_callB (cr_sortD3 rfl) (by rfl) T.sorted (by decide +kernel) (pa_cons (pv 3) pa_nil)) pa_nil)) pa_nil)))))))))), ?_⟩
  refine ⟨_, rfl, p, _, rfl, pl, by decide, by decide, fun v1 H1 s1 p1 l1 u1 => ?_⟩
  refine ⟨_, _, rfl, rfl, ?_⟩
  refine ⟨_, rfl, p, _, rfl, p1, by decide, by decide, fun z H2 s2 p2 l2 u2 => ?_⟩
  refine fun d nd => gen nd fun H3 s3 e3 => ?_
  have ndp : d ≠ p := by
    obtain ⟨_, _, _, e⟩ := p2
    exact (ne_of_none e nd).symm
  refine ⟨_, rfl, p, _, rfl, p2.same s3, by decide, by decide, fun n H4 s4 p4 l4 u4 => ?_⟩
  refine ⟨_, rfl, by omega, by omega, ?_⟩
  obtain ⟨m0, rfl⟩ := Int.eq_ofNat_of_zero_le l1
  obtain ⟨n0, rfl⟩ := Int.eq_ofNat_of_zero_le l4
  have sb4 : Sb p H H4 := ((s1.trans s2).trans (.of s3)).trans s4
  have ndH : H d = none := (s1.trans s2).free ndp nd
  have em : (1 : Int) + (m0 : Nat) = ((m0 + 1 : Nat) : Int) := by omega
  have hm7 : m0 + 1 ≤ 7 := by omega
  refine for_range (lo := 0) (n := n0) (fun i σ H' => (∃ mo o5 o6 o7, σ = [some (.ref p), some (nV (m0 + 1)), some (.int z), some (.ref d), some (.int mo), o5, o6, o7]) ∧ Sb p H H' ∧ Pl H' p ∧ Keys H' d (m0 + 1) i)
    ⟨⟨0, none, none, none, congrArg (fun t => [some (V.ref p), some t, some (V.int z), some (V.ref d), some (V.int 0), none, none, none]) (show V.int (1 + (m0 : Int)) = nV (m0 + 1) by rw [em])⟩, sb4, p4, [], s4 _ _ ndp e3, Nat.zero_le _, fun x hx => (by cases hx)⟩ ?_ ?_
  · rintro i σ H' hi ⟨⟨mo, o5, o6, o7, rfl⟩, sb, pl', ks⟩
    rw [Int.zero_add]
    have ksb : ∀ {H5}, Sb p H' H5 → Keys H5 d (m0 + 1) i := fun s5 => by
      obtain ⟨kvs, e, r⟩ := ks
      exact ⟨kvs, s5 _ _ ndp e, r⟩
    refine ⟨_, rfl, _, _, rfl, rfl, _, rfl, ?_⟩
    refine ite2 (fun e => ?_) (fun _ => ?_)
    · have e1 := of_decide_eq_true e
      have h2 : 2 ≤ m0 + 1 := by omega
      refine ⟨_, rfl, rfl, _, rfl, ?_⟩
      refine ite2 (fun _ => ?_) (fun _ => ?_)
      · refine iteT ⟨_, rfl, _, rfl, p, z, rfl, pl', l2, u2, fun mo' H5 s5 p5 => ?_⟩
        exact t_meet_ok p5 ndp ndH h2 hm7 (by omega) (ksb s5) (sb.trans s5) fun u v H6 s6 p6 k6 => ⟨⟨_, _, _, _, rfl⟩, s6, p6, k6⟩
      · refine ⟨_, rfl, p, _, rfl, pl', by decide, by decide, fun v5 H5 s5 p5 _ _ => ⟨_, _, rfl, rfl, _, rfl, ?_⟩⟩
        refine ite2 (fun _ => ?_) (fun _ => ?_)
        · refine ⟨_, rfl, _, rfl, p, z, rfl, p5, l2, u2, fun mo' H6 s6 p6 => ?_⟩
          exact t_meet_ok p6 ndp ndH h2 hm7 (by omega) (ksb (s5.trans s6)) ((sb.trans s5).trans s6) fun u v H6 s6 p6 k6 => ⟨⟨_, _, _, _, rfl⟩, s6, p6, k6⟩
        · exact t_meet_ok p5 ndp ndH h2 hm7 (by omega) (ksb s5) (sb.trans s5) fun u v H6 s6 p6 k6 => ⟨⟨_, _, _, _, rfl⟩, s6, p6, k6⟩
    · obtain ⟨kvs, e, hl, r⟩ := ks
      exact ⟨⟨_, _, _, _, rfl⟩, sb, pl', kvs, e, by omega, r⟩
  · rintro σ H' ⟨⟨mo, o5, o6, o7, rfl⟩, sb, pl', kvs, hd, hlen, hkv⟩
    refine ⟨_, rfl, _, rfl, d, kvs, rfl, .of hd, fun x hx => ?_, fun bs ys p5 hk pm n5 => gen n5 fun H5 s5 e5 => ?_⟩
    · obtain ⟨s, e, _⟩ := hkv x hx
      exact ⟨[s.1, s.2.1, s.2.2], by simp, e⟩
    · obtain ⟨ss0, t0, hR, hl0⟩ := keys_t3 hk hkv
      obtain ⟨ss, t1, pm1⟩ := pr_perm pm t0
      refine ⟨p5, ys, rfl, .inl ⟨SqL.of e5, fun p6 n6 => gen n6 fun H6 s6 e6 => ?_⟩⟩
      refine ⟨two_le, fun p7 n7 => gen n7 fun H7 s7 e7 => ?_⟩
      have s57 := (s5.trans s6).trans s7
      refine q _ H7 ⟨m0 + 1, ss⟩ (sb.trans (.of s57)) (pl'.same s57) (web_at e7 (s7 _ _ e6) (T3s.ke t1 (.of s57))) ⟨by show 1 ≤ m0 + 1; omega, hm7, ?_, fun s hs => hR s ((pm1.mem_iff).mp hs)⟩
      show ss.length ≤ 24
      rw [pm1.length_eq]
      omega
end
end Wm
end
section
set_option Elab.async false
set_option linter.all false
set_option maxRecDepth 100000
set_option maxHeartbeats 4000000
namespace Wm
open PySem PySem.Spec PyProof.Rows L2
/-- the moments of a web, and 0 -/
def moms (W : Web) : List Int := W.meets.map (fun s => s.1) ++ [0]
theorem moms_len (W : Web) : (moms W).length = W.meets.length + 1 := by
  unfold moms
  rw [List.length_append, List.length_map, List.length_singleton]
theorem moms_map (W : Web) : (moms W).map V.int = (W.meets.map (fun s => s.1)).map V.int ++ [.int 0] := by
  unfold moms
  rw [List.map_append]
  rfl
abbrev LI (H : Hp) (p : Addr) (ns : List Int) : Prop := H p = some (.lst (ns.map V.int))
theorem iGetD {ns : List Int} {v : Int} (h0 : 0 ≤ v) (h : v < ns.length) : ∃ z, atI (ns.map V.int) v = some (.int z) := by
  obtain ⟨n, rfl⟩ := Int.eq_ofNat_of_zero_le h0
  exact ⟨_, iGet (by omega)⟩
section
variable {P : Program} {w : World} {K : PySem.W.Frag} {mg : Str → Option Value} {base : Heap}
/-! ### _law_till -/
def sp_l_till : Sp := fun vs H Q _ => ∃ (p : Addr) (x : V) (W : Web), vs = [.ref p, x] ∧ Pl H p ∧ WebAt H x W ∧ WebOk W ∧ ∀ v H', Sb p H H' → Pl H' p → Q (.int v) H'
theorem sc_l_till : FnScope ["pool", "web", "moments", "way", "meet"] ["pool", "web"] (defScope s_l_till) := ⟨rfl, rfl, rfl, by decide +kernel, rfl, by decide +kernel, by decide +kernel⟩
theorem ok_l_till (hh : Here K mg "_law_till" s_l_till) (T : Tp K mg) (F_l_next : Fn P w K mg base CX0 1 "_law_next" ["pool", "base"] sp_l_next) (F_l_wide : Fn P w K mg base CX0 2 "_law_wide" ["pool", "base"] sp_l_wide) : Fn P w K mg base CX0 3 "_law_till" ["pool", "web"] sp_l_till := by
  refine fn_mk hh sc_l_till (fun vs H Q E h => ?_) (fun _ _ _ _ _ _ us hl => match us, hl with | [_, _], _ => rfl) (fun f cdv A outer s H vs Q E hr h => ?_)
  · obtain ⟨p, x, W, rfl, _⟩ := h
    rfl
  obtain ⟨p, x, W, rfl, pl, hW, ok, q⟩ := h
  obtain ⟨a, z, rfl, ha, b, ms, rfl, hb, hm⟩ := id hW
  have hfew := ok.few
  refine ⟨_, (pss_cons (ps_set (i := 2) sc_l_till.nd rfl (.inl rfl) (pe_op op_cat (pe_lc (own := [("meet", 4)]) (g := gName 4) (tt := tYes) (te := (tOp (rIxT K) (tVar 4) (tC (.int 0)))) rfl sc_l_till.nd (pi_tup (pe_ix ix_tup (pv 1) pe_int (fun _ _ => rfl))) (blkOk_by (own := [("meet", 4)]) (N := ["pool", "web", "moments", "way", "meet"]) (sc := defScope s_l_till) (by decide +kernel)) (fun _ _ _ _ _ => (pg_name (i := 4) sc_l_till.nd rfl (.inl rfl))) (fun _ _ _ _ _ => pts_nil) (fun _ _ _ _ _ => pe_ix ix_tup (pv 4) pe_int (fun _ _ => rfl))) (pe_lst (pa_cons pe_int pa_nil))))
      (pss_cons (ps_set (i := 3) sc_l_till.nd rfl (.inl rfl) (pe_fn F_l_next (hr.mono (by decide)) (by rfl) (pa_cons (pv 0) (pa_cons pe_int pa_nil))))
      (pss_cons (ps_if (pt_cmpR op_eq (pv 3) pe_int (nomark _))
        (pss_one (ps_ret (pe_op op_add (pe_op op_sub (pe_fn F_l_wide (hr.mono (by decide)) (by rfl) (pa_cons (pv 0) (pa_cons (pe_op op_sub (pe_op op_mul pe_int (pe_op op_pow pe_int pe_int)) pe_int) pa_nil))) (pe_op op_pow pe_int pe_int)) pe_int)))
        pss_nil)
      (pss_cons (ps_if (pt_cmpR op_eq (pv 3) pe_int (nomark _))
        (pss_one (ps_ret (pe_op op_add (pe_callB (cr_max rfl) (by rfl) T.max (by decide +kernel) (pa_cons (pv 2) pa_nil)) (pe_fn F_l_next (hr.mono (by decide)) (by rfl) (pa_cons (pv 0) (pa_cons pe_int pa_nil))))))
        pss_nil)
      (pss_one (ps_ret (pe_op op_sub (pe_op op_add (pe_ix ix_list (pv 2) (pe_fn F_l_next (hr.mono (by decide)) (by rfl) (pa_cons (pv 0) (pa_cons (pe_callB call_len_seq (by rfl) T.len PySem.boot_len (pa_cons (pv 2) pa_nil)) pa_nil))) (fun _ _ => rfl)) (pe_fn F_l_next (hr.mono (by decide)) (by rfl) (pa_cons (pv 0) (pa_cons pe_int pa_nil)))) pe_int))))))), ?_⟩
  refine ⟨_, rfl, a, _, _, _, rfl, rfl, SqT.of ha, rfl, b, rfl, ⟨_, SqT.of hb⟩, fun D nD => ?_⟩
  refine lcT (R0 := T3) (R := fun _ x o => x = V.int o) (β := Int) kV0 (fun _ => true) (fun s => s.1) hb hm (by omega) nD (fun x r H1 k k0 sm hx hr hk hk0 => ?_) fun H1 ys s1 e1 t1 => ?_
  · obtain ⟨c, rfl, hc⟩ := hx.ke (.of sm)
    exact ⟨rfl, yesT ⟨_, rfl, c, _, _, _, rfl, rfl, SqT.of hc, rfl, hk rfl _ H1 (Same.refl _) rfl⟩⟩
  rw [filter_yes] at t1
  rw [pr_eq t1] at e1
  refine ⟨(by show 1 ≤ sizeLine; decide), fun p2 n2 => gen n2 fun H2 s2 e2 => ⟨D, p2, _, _, rfl, rfl, s2 _ _ e1, e2, z100 (by rw [List.length_map, List.length_map]; show _ + 1 ≤ _; omega), fun l nl => gen nl fun H3 s3 e3 => ?_⟩⟩
  rw [← moms_map] at e3
  have s13 := (s1.trans s2).trans s3
  have ne : l ≠ p := by
    obtain ⟨_, _, _, e⟩ := pl.same (s1.trans s2)
    exact (ne_of_none e nl).symm
  have ml := moms_len W
  refine ⟨_, rfl, p, _, rfl, pl.same s13, by decide, by decide, fun way H4 s4 p4 _ _ => ?_⟩
  have sb4 : Sb p H H4 := (Sb.of s13).trans s4
  have e4 := s4 _ _ ne e3
  refine ⟨_, rfl, rfl, _, rfl, ?_⟩
  refine ite2 (fun _ => ?_) (fun _ => ?_)
  · refine ⟨_, rfl, _, _, rfl, rfl, ⟨by decide, by decide, by decide⟩, _, _, rfl, rfl, .inl ⟨by decide, by decide⟩, _, _, rfl, rfl, p, _, rfl, p4, by decide, by decide, fun v H5 s5 p5 _ _ => ?_⟩
    exact ⟨_, _, rfl, rfl, ⟨by decide, by decide, by decide⟩, _, _, rfl, rfl, _, _, rfl, rfl, q _ _ (sb4.trans s5) p5⟩
  refine ⟨_, rfl, rfl, _, rfl, ?_⟩
  refine ite2 (fun _ => ?_) (fun _ => ?_)
  · refine ⟨_, rfl, l, _, rfl, SqL.of e4, by omega, fun m _ _ => ?_⟩
    exact ⟨_, rfl, p, _, rfl, p4, by decide, by decide, fun v H5 s5 p5 _ _ => ⟨_, _, rfl, rfl, q _ _ (sb4.trans s5) p5⟩⟩
  · refine ⟨_, rfl, _, rfl, _, rfl, l, _, rfl, .inl (SqL.of e4), p, _, rfl, p4, (by rw [List.length_map]; omega), (by rw [List.length_map]; omega), fun v H5 s5 p5 l5 u5 => ?_⟩
    rw [List.length_map] at u5
    obtain ⟨z, hz⟩ := iGetD (ns := moms W) l5 u5
    exact ⟨l, _, _, _, rfl, rfl, SqL.of (s5 _ _ ne e4), hz, _, rfl, p, _, rfl, p5, by decide, by decide, fun v H6 s6 p6 _ _ => ⟨_, _, rfl, rfl, _, _, rfl, rfl, q _ _ ((sb4.trans s5).trans s6) p6⟩⟩
end
end Wm
end
section
set_option Elab.async false
set_option linter.all false
set_option maxRecDepth 100000
set_option maxHeartbeats 4000000
namespace Wm
open PySem PySem.Spec PyProof.Rows L2
/-! ### webs changed -/
section
variable {W W' : Web}
theorem later_to {d : Int} (h : W'.meets = W.meets.map fun s => (s.1 + d, s.2.1, s.2.2)) (s : Step) (hs : St W s) : St W' (s.1 + d, s.2.1, s.2.2) := by
  unfold St
  rw [h]
  rcases hs with z | z
  · exact .inl (List.mem_map_of_mem (f := fun s : Step => (s.1 + d, s.2.1, s.2.2)) z)
  · exact .inr (List.mem_map_of_mem (f := fun s : Step => (s.1 + d, s.2.1, s.2.2)) z)
theorem later_back {d : Int} (h : W'.meets = W.meets.map fun s => (s.1 + d, s.2.1, s.2.2)) (s : Step) (hs : St W' s) : St W (s.1 - d, s.2.1, s.2.2) := by
  obtain ⟨t, a, b⟩ := s
  unfold St at hs
  rw [h, List.mem_map, List.mem_map] at hs
  rcases hs with ⟨⟨t', a', b'⟩, hr, e⟩ | ⟨⟨t', a', b'⟩, hr, e⟩
  · cases e
    refine .inl ?_
    show (t' + d - d, a', b') ∈ W.meets
    rw [show t' + d - d = t' by omega]
    exact hr
  · cases e
    refine .inr ?_
    show (t' + d - d, b, a) ∈ W.meets
    rw [show t' + d - d = t' by omega]
    exact hr
theorem later_ok {d : Int} (hm : W'.many = W.many) (h : W'.meets = W.meets.map fun s => (s.1 + d, s.2.1, s.2.2)) (o : WebOk W) : WebOk W' := by
  refine ⟨by rw [hm]; exact o.pos, by rw [hm]; exact o.le, by rw [h, List.length_map]; exact o.few, fun m q => ?_⟩
  rw [h, List.mem_map] at q
  obtain ⟨r, hr, e⟩ := q
  rw [← e, hm]
  exact o.ok r hr
/-- an order of the places -/
structure Ord (os : List Nat) (m : Nat) : Prop where
  len : os.length = m
  lt : ∀ v, v < m → os.getD v 0 < m
  inj : ∀ u v, u < m → v < m → os.getD u 0 = os.getD v 0 → u = v
theorem getD_at {os : List Nat} {v : Nat} (h : v < os.length) : os.getD v 0 = os[v] := by
  rw [List.getD_eq_getElem?_getD, List.getElem?_eq_getElem h]
  rfl
theorem ord_of {os : List Nat} {m : Nat} (h : os.Perm (List.range m)) : Ord os m := by
  have hl : os.length = m := by rw [h.length_eq, List.length_range]
  refine ⟨hl, fun v hv => ?_, fun u v hu hv e => ?_⟩
  · rw [getD_at (by omega)]
    have : os[v]'(by omega) ∈ os := List.getElem_mem _
    exact List.mem_range.mp (h.mem_iff.mp this)
  · rw [getD_at (by omega), getD_at (by omega)] at e
    have nd : os.Nodup := h.nodup_iff.mpr List.nodup_range
    have pw := List.pairwise_iff_getElem.mp nd
    rcases Nat.lt_trichotomy u v with l | l | l
    · exact absurd e (pw u v (by omega) (by omega) l)
    · exact l
    · exact absurd e.symm (pw v u (by omega) (by omega) l)
section
variable {os : List Nat}
theorem named_to (h : W'.meets.Perm (W.meets.map (rname os))) (s : Step) (hs : St W s) : St W' (s.1, os.getD s.2.1 0, os.getD s.2.2 0) := by
  have key : ∀ r ∈ W.meets, St W' (r.1, os.getD r.2.1 0, os.getD r.2.2 0) := fun r hr => by
    have hm : rname os r ∈ W'.meets := h.mem_iff.mpr (List.mem_map_of_mem hr)
    unfold rname at hm
    rcases Nat.le_total (os.getD r.2.1 0) (os.getD r.2.2 0) with l | l
    · rw [Nat.min_eq_left l, Nat.max_eq_right l] at hm
      exact .inl hm
    · rw [Nat.min_eq_right l, Nat.max_eq_left l] at hm
      exact .inr hm
  rcases hs with z | z
  · exact key s z
  · exact (key _ z).symm
theorem named_back (h : W'.meets.Perm (W.meets.map (rname os))) (s : Step) (hs : St W' s) : ∃ u v, s.2.1 = os.getD u 0 ∧ s.2.2 = os.getD v 0 ∧ St W (s.1, u, v) := by
  have key : ∀ r ∈ W'.meets, ∃ u v, r.2.1 = os.getD u 0 ∧ r.2.2 = os.getD v 0 ∧ St W (r.1, u, v) := fun r hr => by
    obtain ⟨x, hx, e⟩ := List.mem_map.mp (h.mem_iff.mp hr)
    rw [← e]
    unfold rname
    rcases Nat.le_total (os.getD x.2.1 0) (os.getD x.2.2 0) with l | l
    · exact ⟨x.2.1, x.2.2, Nat.min_eq_left l, Nat.max_eq_right l, .inl hx⟩
    · exact ⟨x.2.2, x.2.1, Nat.min_eq_right l, Nat.max_eq_left l, .inr hx⟩
  rcases hs with z | z
  · exact key s z
  · obtain ⟨u, v, e1, e2, h⟩ := key _ z
    exact ⟨v, u, e2, e1, h.symm⟩
theorem named_ok (hm : W'.many = W.many) (h : W'.meets.Perm (W.meets.map (rname os))) (O : Ord os W.many) (o : WebOk W) : WebOk W' := by
  refine ⟨by rw [hm]; exact o.pos, by rw [hm]; exact o.le, by rw [h.length_eq, List.length_map]; exact o.few, fun m q => ?_⟩
  obtain ⟨x, hx, e⟩ := List.mem_map.mp (h.mem_iff.mp q)
  rw [← e, hm]
  obtain ⟨l1, l2⟩ := o.ok x hx
  have h1 := O.lt x.2.1 (by omega)
  have h2 := O.lt x.2.2 l2
  have ne : os.getD x.2.1 0 ≠ os.getD x.2.2 0 := fun z => by
    have := O.inj _ _ (by omega) l2 z
    omega
  show min (os.getD x.2.1 0) (os.getD x.2.2 0) < max (os.getD x.2.1 0) (os.getD x.2.2 0) ∧ max (os.getD x.2.1 0) (os.getD x.2.2 0) < W.many
  omega
end
theorem filt_st {f : Step → Bool} (h : W'.meets = W.meets.filter f) (s : Step) (hs : St W' s) : St W s := by
  unfold St at hs
  rw [h, List.mem_filter, List.mem_filter] at hs
  rcases hs with ⟨z, _⟩ | ⟨z, _⟩
  · exact .inl z
  · exact .inr z
theorem filt_ok {f : Step → Bool} (hm : W'.many = W.many) (h : W'.meets = W.meets.filter f) (o : WebOk W) : WebOk W' := by
  refine ⟨by rw [hm]; exact o.pos, by rw [hm]; exact o.le, ?_, fun m q => ?_⟩
  · rw [h]
    exact Nat.le_trans (List.length_filter_le _ _) o.few
  · rw [h, List.mem_filter] at q
    rw [hm]
    exact o.ok m q.1
theorem kept_st {lo last : Int} (h : W'.meets = W.meets.filter (fun s => decide (lo ≤ s.1) && decide (s.1 ≤ last))) (hlo : ∀ s ∈ W.meets, lo ≤ s.1) (s : Step) (hs : St W s) (le : s.1 ≤ last) : St W' s := by
  have key : ∀ r ∈ W.meets, r.1 ≤ last → r ∈ W'.meets := fun r hr l => by
    rw [h, List.mem_filter, decide_eq_true (hlo r hr), decide_eq_true l]
    exact ⟨hr, rfl⟩
  rcases hs with z | z
  · exact .inl (key s z le)
  · exact .inr (key _ z le)
end
section
variable {P : Program} {w : World} {K : PySem.W.Frag} {mg : Str → Option Value} {base : Heap}
/-! ### _law_moved_right -/
/-- what the three checks are given -/
structure Given (H : Hp) (p : Addr) (x : V) (W : Web) (rest : Int) (goal : Nat) (last : Int) (ta : Addr) (told : List (Option Int)) : Prop where
  gp : Pl H p
  gw : WebAt H x W
  gok : WebOk W
  g0 : 0 ≤ rest
  gu : rest ≤ 1000000000
  gg : goal < W.many
  gt : OL H ta told
  gn : ta ≠ p
  gl : Late W rest goal last told
def sp_three : Sp := fun vs H Q _ => ∃ (p : Addr) (x : V) (W : Web) (rest : Int) (goal : Nat) (last : Int) (ta : Addr) (told : List (Option Int)), vs = [.ref p, x, .int rest, nV goal, .int last, .ref ta] ∧ Given H p x W rest goal last ta told ∧ ∀ H', Sb p H H' → Pl H' p → Q (.bl true) H'
abbrev sp_l_moved_right : Sp := sp_three
theorem sc_l_moved_right : FnScope ["pool", "web", "rest", "goal", "last", "told", "moments", "by", "order", "there", "meet", "place"] ["pool", "web", "rest", "goal", "last", "told"] (defScope s_l_moved_right) := ⟨rfl, rfl, rfl, by decide +kernel, rfl, by decide +kernel, by decide +kernel⟩
theorem ok_l_moved_right (hh : Here K mg "_law_moved_right" s_l_moved_right) (T : Tp K mg) (F_l_order : Fn P w K mg base CX0 2 "_law_order" ["pool", "many"] sp_l_order) (F_latest_to : Fn P w K mg base CX0 4 "latest_to" ["web", "rest", "goal", "last"] sp_latest_to) (F_l_next : Fn P w K mg base CX0 1 "_law_next" ["pool", "base"] sp_l_next) (F_l_put_off : Fn P w K mg base CX0 1 "_law_put_off" ["moments", "by"] sp_l_put_off) (F_renamed_web : Fn P w K mg base CX0 2 "renamed_web" ["web", "order"] sp_renamed_web) (F_later_web : Fn P w K mg base CX0 1 "later_web" ["web", "by"] sp_later_web) (F_kept_web : Fn P w K mg base CX0 1 "kept_web" ["web", "first", "last"] sp_kept_web) : Fn P w K mg base CX0 5 "_law_moved_right" ["pool", "web", "rest", "goal", "last", "told"] sp_l_moved_right := by
  refine fn_mk hh sc_l_moved_right (fun vs H Q E h => ?_) (fun _ _ _ _ _ _ us hl => match us, hl with | [_, _, _, _, _, _], _ => rfl) (fun f cdv A outer s H vs Q E hr h => ?_)
  · obtain ⟨p, x, W, rest, goal, last, ta, told, rfl, _⟩ := h
    rfl
  obtain ⟨p, x, W, rest, goal, last, ta, told, rfl, G, q⟩ := h
  obtain ⟨pl, hW, ok, h0, _, hgo, ht, hne, la⟩ := G
  obtain ⟨a, z, rfl, ha, b, ms, rfl, hb, hm⟩ := id hW
  have hfew := ok.few
  have hm7 := ok.le
  have htl := la.length
  refine ⟨_, (pss_cons (ps_set (i := 6) sc_l_moved_right.nd rfl (.inl rfl) (pe_op op_cat (pe_lc (own := [("meet", 10)]) (g := gName 10) (tt := tYes) (te := (tOp (rIxT K) (tVar 10) (tC (.int 0)))) rfl sc_l_moved_right.nd (pi_tup (pe_ix ix_tup (pv 1) pe_int (fun _ _ => rfl))) (blkOk_by (own := [("meet", 10)]) (N := ["pool", "web", "rest", "goal", "last", "told", "moments", "by", "order", "there", "meet", "place"]) (sc := defScope s_l_moved_right) (by decide +kernel)) (fun _ _ _ _ _ => (pg_name (i := 10) sc_l_moved_right.nd rfl (.inl rfl))) (fun _ _ _ _ _ => pts_nil) (fun _ _ _ _ _ => pe_ix ix_tup (pv 10) pe_int (fun _ _ => rfl))) (pe_lst (pa_cons pe_int pa_nil))))
      (pss_cons (ps_set (i := 7) sc_l_moved_right.nd rfl (.inl rfl) (pe_callB (call_min2 rfl) (by rfl) T.min (by decide +kernel) (pa_cons (pe_fn F_l_next (hr.mono (by decide)) (by rfl) (pa_cons (pv 0) (pa_cons pe_int pa_nil))) (pa_cons (pe_op op_sub (pe_op op_pow pe_int pe_int) (pe_callB (cr_max rfl) (by rfl) T.max (by decide +kernel) (pa_cons (pv 6) pa_nil))) pa_nil))))
      (pss_cons (ps_if (pt_cmpR (op_neD (ru64 hr)) (pe_fn F_latest_to (hr.mono (by decide)) (by rfl) (pa_cons (pe_fn F_later_web (hr.mono (by decide)) (by rfl) (pa_cons (pv 1) (pa_cons (pv 7) pa_nil))) (pa_cons (pv 2) (pa_cons (pv 3) (pa_cons (pe_op op_add (pv 4) (pv 7)) pa_nil))))) (pe_fn F_l_put_off (hr.mono (by decide)) (by rfl) (pa_cons (pv 5) (pa_cons (pv 7) pa_nil))) (nomark _))
        (pss_one (ps_ret pe_bl))
        pss_nil)
      (pss_cons (ps_set (i := 8) sc_l_moved_right.nd rfl (.inr rfl) (pe_fn F_l_order (hr.mono (by decide)) (by rfl) (pa_cons (pv 0) (pa_cons (pe_ix ix_tup (pv 1) pe_int (fun _ _ => rfl)) pa_nil))))
      (pss_cons (ps_set (i := 9) sc_l_moved_right.nd rfl (.inr rfl) (pe_fn F_latest_to (hr.mono (by decide)) (by rfl) (pa_cons (pe_fn F_renamed_web (hr.mono (by decide)) (by rfl) (pa_cons (pv 1) (pa_cons (pv 8) pa_nil))) (pa_cons (pv 2) (pa_cons (pe_ix ix_tup (pv 8) (pv 3) (fun _ _ => rfl)) (pa_cons (pv 4) pa_nil))))))
      (pss_cons (ps_if (pt_cmpR (op_neD (ru64 hr)) (pe_lc (own := [("place", 11)]) (g := gName 11) (tt := tYes) (te := (tOp (rIxL K) (tVar 9) (tOp (rIxT K) (tVar 8) (tVar 11)))) rfl sc_l_moved_right.nd (pi_range1 (by rfl) T.range (pa_cons (pe_ix ix_tup (pv 1) pe_int (fun _ _ => rfl)) pa_nil)) (blkOk_by (own := [("place", 11)]) (N := ["pool", "web", "rest", "goal", "last", "told", "moments", "by", "order", "there", "meet", "place"]) (sc := defScope s_l_moved_right) (by decide +kernel)) (fun _ _ _ _ _ => (pg_name (i := 11) sc_l_moved_right.nd rfl (.inl rfl))) (fun _ _ _ _ _ => pts_nil) (fun _ _ _ _ _ => pe_ix ix_list (pv 9) (pe_ix ix_tup (pv 8) (pv 11) (fun _ _ => rfl)) (fun _ _ => rfl))) (pv 5) (nomark _))
        (pss_one (ps_ret pe_bl))
        pss_nil)
      (pss_one (ps_ret (pe_cmpR (op_eqD (ru64 hr)) (pe_fn F_latest_to (hr.mono (by decide)) (by rfl) (pa_cons (pe_fn F_kept_web (hr.mono (by decide)) (by rfl) (pa_cons (pv 1) (pa_cons (pe_callB (cr_min rfl) (by rfl) T.min (by decide +kernel) (pa_cons (pe_op op_cat (pv 6) (pe_lst (pa_cons (pv 4) pa_nil))) pa_nil)) (pa_cons (pv 4) pa_nil)))) (pa_cons (pv 2) (pa_cons (pv 3) (pa_cons (pv 4) pa_nil))))) (pv 5) (nomark _)))))))))), ?_⟩
  refine ⟨_, rfl, a, _, _, _, rfl, rfl, SqT.of ha, rfl, b, rfl, ⟨_, SqT.of hb⟩, fun D nD => ?_⟩
  refine lcT (R0 := T3) (R := fun _ x o => x = V.int o) (β := Int) kV0 (fun _ => true) (fun s => s.1) hb hm (by omega) nD (fun x r H1 k k0 sm hx hr hk hk0 => ?_) fun H1 ys s1 e1 t1 => ?_
  · obtain ⟨c, rfl, hc⟩ := hx.ke (.of sm)
    exact ⟨rfl, yesT ⟨_, rfl, c, _, _, _, rfl, rfl, SqT.of hc, rfl, hk rfl _ H1 (Same.refl _) rfl⟩⟩
  rw [filter_yes] at t1
  rw [pr_eq t1] at e1
  refine ⟨(by show 1 ≤ sizeLine; decide), fun p2 n2 => gen n2 fun H2 s2 e2 => ⟨D, p2, _, _, rfl, rfl, s2 _ _ e1, e2, z100 (by rw [List.length_map, List.length_map]; show _ + 1 ≤ _; omega), fun l nl => gen nl fun H3 s3 e3 => ?_⟩⟩
  rw [← moms_map] at e3
  have s13 := (s1.trans s2).trans s3
  have ne : l ≠ p := by
    obtain ⟨_, _, _, e⟩ := pl.same (s1.trans s2)
    exact (ne_of_none e nl).symm
  have ml := moms_len W
  refine ⟨_, rfl, p, _, rfl, pl.same s13, by decide, by decide, fun v4 H4 s4 p4 _ _ => ?_⟩
  have sb4 : Sb p H H4 := (Sb.of s13).trans s4
  have e4 := s4 _ _ ne e3
  refine ⟨_, _, rfl, rfl, ⟨by decide, by decide, by decide⟩, _, rfl, l, _, rfl, SqL.of e4, by omega, fun m _ _ => ?_⟩
  refine ⟨_, _, rfl, rfl, _, _, rfl, ?_⟩
  generalize (if (10 : Int) ^ (9 : Int).toNat - m < v4 then (10 : Int) ^ (9 : Int).toNat - m else v4) = d
  have k4 := pl.ke sb4
  refine ⟨_, rfl, _, rfl, .ref a, W, d, rfl, hW.ke k4, by omega, fun v5 H5 W5 s5 hW5 em5 eq5 => ?_⟩
  refine ⟨_, rfl, _, rfl, _, rfl, _, rfl, _, _, rfl, rfl, v5, W5, rest, last + d, goal, rfl, hW5, later_ok em5 eq5 ok, h0, by omega, fun p6 H6 l6 np6 s6 e6 la6 => ?_⟩
  have s46 := s5.trans s6
  have ht4 := sb4 _ _ hne ht
  refine ⟨_, rfl, _, rfl, ta, told, d, rfl, s46 _ _ ht4, by omega, fun p7 H7 np7 s7 e7 => ?_⟩
  have e67 : OL H7 p6 l6 := s7 _ _ e6
  have elater := la.later la6 em5 (later_to eq5) (later_back eq5)
  refine ⟨_, _, e67.dp, OL.dp e7, oDs_shaped _, oDs_shaped _, _, rfl, ?_⟩
  rw [oDs_eqv, decide_eq_true elater]
  refine iteF ?_
  have s47 := s46.trans s7
  have sb7 : Sb p H H7 := sb4.trans (.of s47)
  have ha7 := (pl.ke sb7) _ _ ha
  refine ⟨_, rfl, _, rfl, a, _, _, _, rfl, rfl, SqT.of ha7, rfl, p, W.many, rfl, p4.same s47, hm7, fun t H8 os sb8 p8 et pm => ?_⟩
  have O := ord_of pm
  have sb08 := sb7.trans sb8
  have k8 := pl.ke sb08
  refine ⟨_, rfl, _, rfl, .ref a, W, t, os, rfl, hW.ke k8, et, fun s hs => ?_, by omega, fun v9 H9 W9 s9 hW9 em9 pm9 => ?_⟩
  · have := ok.ok s hs
    rw [O.len]
    omega
  have hgl : goal < os.length := by rw [O.len]; exact hgo
  refine ⟨_, rfl, _, rfl, _, rfl, t, _, _, _, rfl, rfl, SqT.of (s9 _ _ et), nGet hgl, _, rfl, v9, W9, rest, last, os.getD goal 0, rfl, hW9, named_ok em9 pm9 O ok, h0, by rw [em9]; exact O.lt goal hgo, fun p10 H10 l10 np10 s10 e10 la10 => ?_⟩
  have s8t := s9.trans s10
  have en := la.names (o := fun v => os.getD v 0) la10 em9 ok O.lt O.inj (named_to pm9) (named_back pm9)
  have hl10 : l10.length = W.many := by rw [la10.length, em9]
  have sb010 := sb08.trans (.of s8t)
  have ha10 := (pl.ke sb010) _ _ ha
  refine ⟨_, rfl, a, _, _, _, rfl, rfl, SqT.of ha10, rfl, _, rfl, by omega, by omega, fun D2 nD2 => ?_⟩
  refine lc_range (lo := 0) (n := W.many) (fun i H' => Same H10 H' ∧ OL H' D2 (told.take i)) ⟨same_new _ nD2, upd_same⟩ (fun i H' hi pv => ?_) fun H11 pv => ?_
  · rw [Int.zero_add]
    have hio : i < os.length := by rw [O.len]; exact hi
    have hti : told[i]? = some told[i] := List.getElem?_eq_getElem (by omega)
    have g := oGet ((en i hi).trans hti)
    refine ⟨rfl, yesT ⟨_, rfl, _, rfl, _, rfl, t, _, _, _, rfl, rfl, SqT.of (pv.1 _ _ (s8t _ _ et)), nGet hio, p10, _, _, _, rfl, rfl, SqL.of (pv.1 _ _ e10), g, _, pv.2, z100' (by rw [List.length_map, List.length_take]; omega), same_past pv.1 nD2, ?_⟩⟩
    show _ = some (HO.lst _)
    rw [upd_same, List.take_add_one, hti, List.map_append]
    rfl
  obtain ⟨s11, e11⟩ := pv
  rw [List.take_of_length_le (by omega)] at e11
  have sb011 := sb010.trans (.of s11)
  have ht11 : OL H11 ta told := sb011 _ _ hne ht
  refine ⟨_, rfl, _, _, OL.dp e11, ht11.dp, oDs_shaped _, oDs_shaped _, _, rfl, ?_⟩
  rw [oDs_eqv, decide_eq_true (rfl : told = told)]
  refine iteF ?_
  have s811 := s8t.trans s11
  have el11 := s811 _ _ (sb8 _ _ ne (s47 _ _ e4))
  refine ⟨_, rfl, _, rfl, _, rfl, (by show 1 ≤ sizeLine; decide), fun p12 n12 => gen n12 fun H12 s12 e12 => ⟨l, p12, _, _, rfl, rfl, s12 _ _ el11, e12, z100 (by rw [List.length_map]; show _ + 1 ≤ _; omega), fun p13 n13 => gen n13 fun H13 s13' e13 => ?_⟩⟩
  have e13' : LI H13 p13 (moms W ++ [last]) := by
    show _ = some (HO.lst _)
    rw [e13, List.map_append]
    rfl
  refine ⟨p13, _, rfl, SqL.of e13', by rw [List.length_append]; exact Nat.succ_pos _, fun lo _ hlo => ?_⟩
  have s1113 := s12.trans s13'
  have sb013 := sb011.trans (.of s1113)
  refine ⟨_, rfl, .ref a, W, lo, last, rfl, hW.ke (pl.ke sb013), by omega, fun v14 H14 W14 s14 hW14 em14 eq14 => ?_⟩
  refine ⟨_, rfl, _, rfl, _, rfl, v14, W14, rest, last, goal, rfl, hW14, filt_ok em14 eq14 ok, h0, by rw [em14]; exact hgo, fun p15 H15 l15 np15 s15 e15 la15 => ?_⟩
  have ek := la.kept la15 em14 h0 (filt_st eq14) fun s hs le => kept_st eq14 (fun r hr => hlo r.1 (List.mem_append_left _ (List.mem_append_left _ (List.mem_map_of_mem (f := fun s : Step => s.1) hr)))) s hs le
  have sb015 := sb013.trans (.of (s14.trans s15))
  refine ⟨_, rfl, _, _, OL.dp e15, OL.dp (sb015 _ _ hne ht), oDs_shaped _, oDs_shaped _, ?_⟩
  rw [oDs_eqv, decide_eq_true ek]
  exact q H15 sb015 (p8.same ((s811.trans s1113).trans (s14.trans s15)))
end
end Wm
end
section
set_option Elab.async false
set_option linter.all false
set_option maxRecDepth 100000
set_option maxHeartbeats 4000000
namespace Wm
open PySem PySem.Spec PyProof.Rows L2
section
variable {W W' : Web} {s : Step}
theorem put_st (h : ∀ r, r ∈ W'.meets ↔ r ∈ W.meets ∨ r = s) (x : Step) (hx : St W x) : St W' x := by
  rcases hx with z | z
  · exact .inl ((h _).mpr (.inl z))
  · exact .inr ((h _).mpr (.inl z))
theorem put_ok (hm : W'.many = W.many) (h : ∀ r, r ∈ W'.meets ↔ r ∈ W.meets ∨ r = s) (hl : W'.meets.length ≤ W.meets.length + 1) (h24 : W.meets.length < 24) (hs : s.2.1 < s.2.2 ∧ s.2.2 < W.many) (o : WebOk W) : WebOk W' := by
  refine ⟨by rw [hm]; exact o.pos, by rw [hm]; exact o.le, by omega, fun m q => ?_⟩
  rw [hm]
  rcases (h m).mp q with z | z
  · exact o.ok m z
  · rw [z]; exact hs
end
theorem tris_eqv_nilT (ss : List Step) : PyData.eqv (.tuple (ss.map tri)) (.tuple (([] : List Step).map tri)) = decide (ss = []) := by
  cases ss with
  | nil => simp [PyData.eqv, PyData.eqvAll]
  | cons a r => simp [PyData.eqv, PyData.eqvAll]
abbrev rLenS (K : PySem.W.Frag) : List V → Hp → VK → Prop := fun xs H Q => ∃ p ys, xs = [.ref p] ∧ (SqL K H p ys ∨ SqT K H p ys) ∧ Q (.int ys.length) H
section
variable {P : Program} {w : World} {K : PySem.W.Frag} {mg : Str → Option Value} {base : Heap}
/-! ### _law_changed_right -/
abbrev sp_l_changed_right : Sp := sp_three
def t_few (K : PySem.W.Frag) : TS :=
  tSeq (tIfS (tTest (tOp (rNeD K) (tOp (rIxT K) (tVar 1) (tC (.int 1))) (tTup tNil)))
    (tSeq (tAsg (tCall sp_less_meet [] E0 (tCons (tVar 1) (tCons (tOp (rIxT K) (tOp (rIxT K) (tVar 1) (tC (.int 1))) (tCall sp_l_next [] E0 (tCons (tVar 0) (tCons (tCB (rLenS K) (tCons (tOp (rIxT K) (tVar 1) (tC (.int 1))) tNil)) tNil)))) tNil))) (gName 8))
      (tIfS (tNot (tB (tCall sp_l_no_sooner [] E0 (tCons (tVar 5) (tCons (tCall sp_latest_to [] E0 (tCons (tVar 8) (tCons (tVar 2) (tCons (tVar 3) (tCons (tVar 4) tNil))))) tNil))))) (tRet (tC (.bl false))) tNext)) tNext) (tRet (tC (.bl true)))
theorem t_few_ok {D : Ends} {H : Hp} {p a : Addr} {W : Web} {rest : Int} {goal : Nat} {last : Int} {ta : Addr} {told : List (Option Int)} {o6 o7 o8 : Option V} (G : Given H p (.ref a) W rest goal last ta told) (q : ∀ H', Sb p H H' → Pl H' p → D.rt (.bl true) H') :
    t_few K D [some (.ref p), some (.ref a), some (.int rest), some (nV goal), some (.int last), some (.ref ta), o6, o7, o8] H := by
  obtain ⟨pl, hW, ok, h0, _, hgo, ht, hne, la⟩ := G
  obtain ⟨a', z, e, ha, b, ms, rfl, hb, hm⟩ := id hW
  cases e
  have hfew := ok.few
  have hml : ms.length = W.meets.length := pr_len hm
  refine ⟨_, rfl, a, _, _, _, rfl, rfl, SqT.of ha, rfl, Nat.zero_le _, fun pE nE => gen nE fun H1 s1 e1 => ?_⟩
  refine ⟨_, _, TupOfs.dp ⟨b, ms, rfl, s1 _ _ hb, T3s.ke hm (.of s1)⟩, (Dp.tup (SqT.of e1) .nil : Dp K H1 (.ref pE) (.tuple (([] : List Step).map tri))), tris_shapedT _, tris_shapedT [], _, rfl, ?_⟩
  rw [tris_eqv_nilT]
  by_cases en : W.meets = []
  · rw [decide_eq_true en]
    exact iteF (q H1 (.of s1) (pl.same s1))
  · rw [decide_eq_false en]
    have hpos : 0 < ms.length := by
      rw [hml]
      exact List.length_pos_iff.mpr en
    refine iteT ⟨_, rfl, _, rfl, a, _, _, _, rfl, rfl, SqT.of (s1 _ _ ha), rfl, _, rfl, _, rfl, a, _, _, _, rfl, rfl, SqT.of (s1 _ _ ha), rfl, b, _, rfl, .inr (SqT.of (s1 _ _ hb)), p, _, rfl, pl.same s1, by omega, by omega, fun v H2 s2 p2 l2 u2 => ?_⟩
    have sb2 : Sb p H H2 := (Sb.of s1).trans s2
    have k2 := pl.ke sb2
    obtain ⟨vn, rfl⟩ := Int.eq_ofNat_of_zero_le l2
    have hv : ms[vn]? = some (ms[vn]'(by omega)) := List.getElem?_eq_getElem _
    obtain ⟨s, hs, tx⟩ := pr_get hm hv
    refine ⟨b, _, _, _, rfl, rfl, SqT.of (k2 _ _ hb), atI_nat hv, .ref a, _, W, s, rfl, hW.ke k2, tx.ke k2, List.mem_of_getElem? hs, by omega, fun v3 H3 W3 s3 hW3 em3 eq3 => ?_⟩
    have sb3 := sb2.trans (.of s3)
    refine ⟨_, rfl, _, rfl, _, rfl, _, rfl, _, rfl, v3, W3, rest, last, goal, rfl, hW3, filt_ok em3 eq3 ok, h0, by rw [em3]; exact hgo, fun p4 H4 l4 np4 s4 e4 la4 => ?_⟩
    have sb4 := sb3.trans (.of s4)
    refine ⟨ta, p4, told, l4, rfl, sb4 _ _ hne ht, e4, by rw [la.length, la4.length, em3], la4.more la em3.symm (filt_st eq3) (Int.le_refl _) (Int.le_refl _), fun H5 s5 => ?_⟩
    exact ⟨_, rfl, iteF (q H5 (sb4.trans (.of s5)) (p2.same ((s3.trans s4).trans s5)))⟩
theorem sc_l_changed_right : FnScope ["pool", "web", "rest", "goal", "last", "told", "one", "meet", "fewer"] ["pool", "web", "rest", "goal", "last", "told"] (defScope s_l_changed_right) := ⟨rfl, rfl, rfl, by decide +kernel, rfl, by decide +kernel, by decide +kernel⟩
theorem ok_l_changed_right (hh : Here K mg "_law_changed_right" s_l_changed_right) (T : Tp K mg) (F_l_no_sooner : Fn P w K mg base CX0 1 "_law_no_sooner" ["more", "less"] sp_l_no_sooner) (F_l_next : Fn P w K mg base CX0 1 "_law_next" ["pool", "base"] sp_l_next) (F_less_meet : Fn P w K mg base CX0 1 "less_meet" ["web", "meet"] sp_less_meet) (F_latest_to : Fn P w K mg base CX0 4 "latest_to" ["web", "rest", "goal", "last"] sp_latest_to) (F_l_wide : Fn P w K mg base CX0 2 "_law_wide" ["pool", "base"] sp_l_wide) (F_put_meet : Fn P w K mg base CX0 1 "put_meet" ["web", "meet"] sp_put_meet) : Fn P w K mg base CX0 5 "_law_changed_right" ["pool", "web", "rest", "goal", "last", "told"] sp_l_changed_right := by
  refine fn_mk hh sc_l_changed_right (fun vs H Q E h => ?_) (fun _ _ _ _ _ _ us hl => match us, hl with | [_, _, _, _, _, _], _ => rfl) (fun f cdv A outer s H vs Q E hr h => ?_)
  · obtain ⟨p, x, W, rest, goal, last, ta, told, rfl, _⟩ := h
    rfl
  obtain ⟨p, x, W, rest, goal, last, ta, told, rfl, G, q⟩ := h
  obtain ⟨pl, hW, ok, h0, hu, hgo, ht, hne, la⟩ := id G
  obtain ⟨a, z, rfl, ha, b, ms, rfl, hb, hm⟩ := id hW
  have hfew := ok.few
  have hm7 := ok.le
  have htl := la.length
  have hml : ms.length = W.meets.length := pr_len hm
  have given : ∀ {H'}, Sb p H H' → Pl H' p → Given H' p (.ref a) W rest goal last ta told := fun sb pl' => ⟨pl', hW.ke (pl.ke sb), ok, h0, hu, hgo, sb _ _ hne ht, hne, la⟩
  refine ⟨_, (pss_cons (ps_if (pt_not (pt_val (pe_fn F_l_no_sooner (hr.mono (by decide)) (by rfl) (pa_cons (pe_fn F_latest_to (hr.mono (by decide)) (by rfl) (pa_cons (pv 1) (pa_cons (pv 2) (pa_cons (pv 3) (pa_cons (pe_op op_add (pe_op op_add (pv 4) pe_int) (pe_fn F_l_next (hr.mono (by decide)) (by rfl) (pa_cons (pv 0) (pa_cons pe_int pa_nil)))) pa_nil))))) (pa_cons (pv 5) pa_nil)))))
        (pss_one (ps_ret pe_bl))
        pss_nil)
      (pss_cons (ps_if (pt_not (pt_val (pe_fn F_l_no_sooner (hr.mono (by decide)) (by rfl) (pa_cons (pe_fn F_latest_to (hr.mono (by decide)) (by rfl) (pa_cons (pv 1) (pa_cons (pe_fn F_l_wide (hr.mono (by decide)) (by rfl) (pa_cons (pv 0) (pa_cons (pe_op op_add (pv 2) pe_int) pa_nil))) (pa_cons (pv 3) (pa_cons (pv 4) pa_nil))))) (pa_cons (pv 5) pa_nil)))))
        (pss_one (ps_ret pe_bl))
        pss_nil)
      (pss_cons (ps_if (PW.pt (pw_and (pt_cmpR op_gt (pe_ix ix_tup (pv 1) pe_int (fun _ _ => rfl)) pe_int (nomark _)) (pw_and1 (pt_cmpR op_lt (pe_callB call_len_seq (by rfl) T.len PySem.boot_len (pa_cons (pe_ix ix_tup (pv 1) pe_int (fun _ _ => rfl)) pa_nil)) pe_int (nomark _)))))
        (pss_cons (ps_set (i := 6) sc_l_changed_right.nd rfl (.inl rfl) (pe_fn F_l_next (hr.mono (by decide)) (by rfl) (pa_cons (pv 0) (pa_cons (pe_op op_sub (pe_ix ix_tup (pv 1) pe_int (fun _ _ => rfl)) pe_int) pa_nil))))
        (pss_cons (ps_set (i := 7) sc_l_changed_right.nd rfl (.inl rfl) (pe_tup (pa_cons (pe_callB (call_max2 rfl) (by rfl) T.max (by decide +kernel) (pa_cons (pe_un un_neg (pe_op op_pow pe_int pe_int)) (pa_cons (pe_callB (call_min2 rfl) (by rfl) T.min (by decide +kernel) (pa_cons (pe_op op_pow pe_int pe_int) (pa_cons (pe_op op_sub (pv 4) (pe_fn F_l_next (hr.mono (by decide)) (by rfl) (pa_cons (pv 0) (pa_cons pe_int pa_nil)))) pa_nil))) pa_nil))) (pa_cons (pv 6) (pa_cons (pe_op op_add (pv 6) pe_int) pa_nil)))))
        (pss_one (ps_if (pt_not (pt_val (pe_fn F_l_no_sooner (hr.mono (by decide)) (by rfl) (pa_cons (pe_fn F_latest_to (hr.mono (by decide)) (by rfl) (pa_cons (pe_fn F_put_meet (hr.mono (by decide)) (by rfl) (pa_cons (pv 1) (pa_cons (pv 7) pa_nil))) (pa_cons (pv 2) (pa_cons (pv 3) (pa_cons (pv 4) pa_nil))))) (pa_cons (pv 5) pa_nil)))))
          (pss_one (ps_ret pe_bl))
          pss_nil))))
        pss_nil)
      (pss_cons (ps_if (pt_cmpR (op_neD (ru64 hr)) (pe_ix ix_tup (pv 1) pe_int (fun _ _ => rfl)) (pe_tup pa_nil) (nomark _))
        (pss_cons (ps_set (i := 8) sc_l_changed_right.nd rfl (.inl rfl) (pe_fn F_less_meet (hr.mono (by decide)) (by rfl) (pa_cons (pv 1) (pa_cons (pe_ix ix_tup (pe_ix ix_tup (pv 1) pe_int (fun _ _ => rfl)) (pe_fn F_l_next (hr.mono (by decide)) (by rfl) (pa_cons (pv 0) (pa_cons (pe_callB call_len_seq (by rfl) T.len PySem.boot_len (pa_cons (pe_ix ix_tup (pv 1) pe_int (fun _ _ => rfl)) pa_nil)) pa_nil))) (fun _ _ => rfl)) pa_nil))))
        (pss_one (ps_if (pt_not (pt_val (pe_fn F_l_no_sooner (hr.mono (by decide)) (by rfl) (pa_cons (pv 5) (pa_cons (pe_fn F_latest_to (hr.mono (by decide)) (by rfl) (pa_cons (pv 8) (pa_cons (pv 2) (pa_cons (pv 3) (pa_cons (pv 4) pa_nil))))) pa_nil)))))
          (pss_one (ps_ret pe_bl))
          pss_nil)))
        pss_nil)
      (pss_one (ps_ret pe_bl)))))), ?_⟩
  refine ⟨_, rfl, _, rfl, _, rfl, _, rfl, _, _, rfl, rfl, _, rfl, p, _, rfl, pl, by decide, by decide, fun v1 H1 s1 p1 l1 u1 => ?_⟩
  refine ⟨_, _, rfl, rfl, .ref a, W, rest, last + 1 + v1, goal, rfl, hW.ke (pl.ke s1), ok, h0, hgo, fun p2 H2 l2 np2 s2 e2 la2 => ?_⟩
  have sb2 := s1.trans (.of s2)
  refine ⟨_, rfl, p2, ta, l2, told, rfl, e2, sb2 _ _ hne ht, by rw [la.length, la2.length], la.more la2 rfl (fun _ h => h) (Int.le_refl _) (by omega), fun H3 s3 => ?_⟩
  refine ⟨_, rfl, iteF ?_⟩
  have sb3 := sb2.trans (.of s3)
  have p3 := p1.same (s2.trans s3)
  refine ⟨_, rfl, _, rfl, _, rfl, _, _, rfl, rfl, p, _, rfl, p3, by omega, by omega, fun v4 H4 s4 p4 l4 u4 => ?_⟩
  have sb4 := sb3.trans s4
  refine ⟨_, rfl, _, rfl, .ref a, W, v4, last, goal, rfl, hW.ke (pl.ke sb4), ok, l4, hgo, fun p5 H5 l5 np5 s5 e5 la5 => ?_⟩
  have sb5 := sb4.trans (.of s5)
  refine ⟨_, rfl, p5, ta, l5, told, rfl, e5, sb5 _ _ hne ht, by rw [la.length, la5.length], la.more la5 rfl (fun _ h => h) (by omega) (Int.le_refl _), fun H6 s6 => ?_⟩
  refine ⟨_, rfl, iteF ?_⟩
  have sb6 := sb5.trans (.of s6)
  have p6 := p4.same (s5.trans s6)
  have k6 := pl.ke sb6
  have fin : ∀ {D : Ends} {H' : Hp} {o6 o7 o8 : Option V}, Sb p H H' → Pl H' p → D.rt = Q → t_few K D [some (.ref p), some (.ref a), some (.int rest), some (nV goal), some (.int last), some (.ref ta), o6, o7, o8] H' := fun sb pl' e => t_few_ok (given sb pl') fun H'' s'' p'' => by rw [e]; exact q H'' (sb.trans s'') p''
  refine ⟨_, rfl, a, _, _, _, rfl, rfl, SqT.of (k6 _ _ ha), rfl, _, _, rfl, rfl, _, rfl, ?_⟩
  refine ite2 (fun c1 => ?_) (fun _ => ?_)
  · refine ⟨_, rfl, a, _, _, _, rfl, rfl, SqT.of (k6 _ _ ha), rfl, b, _, rfl, .inr (SqT.of (k6 _ _ hb)), _, _, rfl, rfl, _, rfl, ?_⟩
    refine ite2 (fun c2 => ?_) (fun _ => ?_)
    · have h2 := of_decide_eq_true c1
      have h24 := of_decide_eq_true c2
      refine ⟨_, rfl, _, rfl, a, _, _, _, rfl, rfl, SqT.of (k6 _ _ ha), rfl, _, _, rfl, rfl, p, _, rfl, p6, by omega, by omega, fun v7 H7 s7 p7 l7 u7 => ?_⟩
      refine ⟨_, _, rfl, rfl, ⟨by decide, by decide, by decide⟩, _, rfl, _, _, rfl, rfl, ⟨by decide, by decide, by decide⟩, _, rfl, _, rfl, p, _, rfl, p7, by decide, by decide, fun v8 H8 s8 p8 l8 u8 => ?_⟩
      refine ⟨_, _, rfl, rfl, _, _, rfl, _, _, rfl, _, rfl, _, rfl, _, _, rfl, rfl, three_le, fun pT nT => gen nT fun H9 s9 e9 => ?_⟩
      obtain ⟨un, rfl⟩ := Int.eq_ofNat_of_zero_le l7
      have t9 : T3 H9 (.ref pT) (_, un, un + 1) := ⟨pT, rfl, e9⟩
      have sb9 := ((sb6.trans s7).trans s8).trans (.of s9)
      refine ⟨_, rfl, _, rfl, .ref a, _, W, _, rfl, hW.ke (pl.ke sb9), t9, by omega, fun v10 H10 W10 s10 hW10 em10 mem10 len10 => ?_⟩
      refine ⟨_, rfl, _, rfl, _, rfl, v10, W10, rest, last, goal, rfl, hW10, put_ok em10 mem10 len10 (by omega) (by show un < un + 1 ∧ un + 1 < W.many; omega) ok, h0, by rw [em10]; exact hgo, fun p11 H11 l11 np11 s11 e11 la11 => ?_⟩
      have sb11 := sb9.trans (.of (s10.trans s11))
      refine ⟨_, rfl, p11, ta, l11, told, rfl, e11, sb11 _ _ hne ht, by rw [la.length, la11.length, em10], la.more la11 em10 (put_st mem10) (Int.le_refl _) (Int.le_refl _), fun H12 s12 => ?_⟩
      exact ⟨_, rfl, iteF (fin (sb11.trans (.of s12)) (p8.same ((s9.trans (s10.trans s11)).trans s12)) rfl)⟩
    · exact fin sb6 p6 rfl
  · exact fin sb6 p6 rfl
end
end Wm
end
section
set_option Elab.async false
set_option linter.all false
set_option maxRecDepth 100000
set_option maxHeartbeats 4000000
namespace Wm
open PySem PySem.Spec PyProof.Rows L2
/-- when a walk leaves and comes -/
def ends (w : List Step) : Int × Int := ((w.getD 0 (0, 0, 0)).1, (w.getD (w.length - 1) (0, 0, 0)).1)
def E4 (H : Hp) (x : V) (e : Int × Int) : Prop := ∃ p u v, x = .ref p ∧ H p = some (.tup [.int u, .int v, .int e.1, .int e.2])
theorem kE4 : ∀ (H H' : Hp) (x : V) (b : Int × Int), Ke H H' → E4 H x b → E4 H' x b := fun _ _ _ _ k ⟨p, u, v, e, h⟩ => ⟨p, u, v, e, k _ _ h⟩
theorem ends_of {S : Step → Prop} {rest : Int} {u v : Nat} {t0 t1 : Int} {w : List Step} (h : Walk S rest u v t0 t1 w) : ends w = (t0, t1) := by
  obtain ⟨s, h1, _, h3⟩ := h.first
  obtain ⟨r, g1, _, g3⟩ := h.last
  unfold ends
  rw [List.getD_eq_getElem?_getD, List.getD_eq_getElem?_getD, h1, g1]
  show (s.1, r.1) = _
  rw [h3, g3]
section
variable {P : Program} {w : World} {K : PySem.W.Frag} {mg : Str → Option Value} {base : Heap} {C : Addr}
/-! ### _law_by_walks -/
def sp_l_by_walks : Sp := fun vs H Q _ => ∃ (x : V) (W : Web) (rest : Int) (start goal : Nat) (last : Int) (told : List (Option Int)), vs = [x, .int rest, nV start, nV goal, .int last] ∧ WebAt H x W ∧ WebOk W ∧ 0 ≤ rest ∧ start < W.many ∧ start ≠ goal ∧ Late W rest goal last told ∧
  ∀ p H' o kn, Same H H' → H' p = some (.tup [oV o, .bl kn]) → (kn = true → told[start]? = some o) → Q (.ref p) H'
theorem sc_l_by_walks : FnScope ["web", "rest", "start", "goal", "last", "first", "found", "ends", "leaves", "walk", "end", "meet"] ["web", "rest", "start", "goal", "last"] (defScope s_l_by_walks) := ⟨rfl, rfl, rfl, by decide +kernel, rfl, by decide +kernel, by decide +kernel⟩
theorem ok_l_by_walks (hh : Here K mg "_law_by_walks" s_l_by_walks) (T : Tp K mg) (R : Er K mg C) (F_plain_walks : Fn P w K mg base (L2.CX P w) 11 "plain_walks" ["web", "rest", "start", "goal", "first"] (sp_plain_walks C)) (F_walk_ends : Fn P w K mg base CX0 1 "walk_ends" ["walk"] sp_walk_ends) : Fn P w K mg base CX0 12 "_law_by_walks" ["web", "rest", "start", "goal", "last"] sp_l_by_walks := by
  obtain ⟨fP, fdP, GT, gT, kT, bT⟩ := F_plain_walks
  refine fn_mk hh sc_l_by_walks (fun vs H Q E h => ?_) (fun _ _ _ _ _ _ us hl => match us, hl with | [_, _, _, _, _], _ => rfl) (fun f cdv A outer s H vs Q E hr h => ?_)
  · obtain ⟨x, W, rest, start, goal, last, told, rfl, _⟩ := h
    rfl
  obtain ⟨x, W, rest, start, goal, last, told, rfl, hW, ok, h0, hst, hne, la, q⟩ := h
  obtain ⟨a, z, rfl, ha, b, ms, rfl, hb, hm⟩ := id hW
  have hfew := ok.few
  have hr1 : Room 11 _ := hr.mono (by decide)
  refine ⟨_, (pss_cons (ps_set (i := 5) sc_l_by_walks.nd rfl (.inl rfl) (pe_callB (cr_min rfl) (by rfl) T.min (by decide +kernel) (pa_cons (pe_op op_cat (pe_lc (own := [("meet", 11)]) (g := gName 11) (tt := tYes) (te := (tOp (rIxT K) (tVar 11) (tC (.int 0)))) rfl sc_l_by_walks.nd (pi_tup (pe_ix ix_tup (pv 0) pe_int (fun _ _ => rfl))) (blkOk_by (own := [("meet", 11)]) (N := ["web", "rest", "start", "goal", "last", "first", "found", "ends", "leaves", "walk", "end", "meet"]) (sc := defScope s_l_by_walks) (by decide +kernel)) (fun _ _ _ _ _ => (pg_name (i := 11) sc_l_by_walks.nd rfl (.inl rfl))) (fun _ _ _ _ _ => pts_nil) (fun _ _ _ _ _ => pe_ix ix_tup (pv 11) pe_int (fun _ _ => rfl))) (pe_lst (pa_cons pe_int pa_nil))) pa_nil)))
      (pss_cons (ps_set (i := 6) sc_l_by_walks.nd rfl (.inl rfl) (pe_lst pa_nil))
      (pss_cons (ps_try_only (tb := fun W => tAsg (tCallS (sp_plain_walks C) (WE W) (tCons (tVar 0) (tCons (tVar 1) (tCons (tVar 2) (tCons (tVar 3) (tCons (tVar 5) tNil)))))) (gName 6)) (ts := fun _ _ _ => tRet (tTup (tCons (tC .non) (tCons (tC (.bl false)) tNil)))) (Wout := fun _ _ _ _ => False) rfl rfl ⟨rfl, by decide, Or.inl R.g⟩ takes0 (fun W pn xe tk _ => pss_one (ps_set (i := 6) sc_l_by_walks.nd rfl (Or.inl rfl) (by exact (pe_callS GT hr1 rfl gT kT bT (fun σ => passAt tk σ) (by exact (pa_cons (pv 0) (pa_cons (pv 1) (pa_cons (pv 2) (pa_cons (pv 3) (pa_cons (pv 5) pa_nil)))))))))) (fun _ _ _ _ _ _ _ => pss_one (ps_ret (pe_tup (pa_cons pe_non (pa_cons pe_bl pa_nil))))))
      (pss_cons (ps_setLc (i := 7) (own := [("walk", 9)]) (g := gName 9) (tt := tYes) (te := (tCall sp_walk_ends [] E0 (tCons (tVar 9) tNil))) rfl sc_l_by_walks.nd rfl rfl (sw_true rfl rfl rfl (by decide +kernel)) (pi_list (pv 6)) (blkOk_by (own := [("walk", 9)]) (N := ["web", "rest", "start", "goal", "last", "first", "found", "ends", "leaves", "walk", "end", "meet"]) (sc := defScope s_l_by_walks) (by decide +kernel)) (fun _ _ _ _ _ => (pg_name (i := 9) sc_l_by_walks.nd rfl (.inl rfl))) (fun _ _ _ _ _ => pts_nil) (fun _ _ _ _ _ => pe_fn F_walk_ends (hr.mono (by decide)) (by rfl) (pa_cons (pv 9) pa_nil)))
      (pss_cons (ps_setLc (i := 8) (own := [("end", 10)]) (g := gName 10) (tt := (tTest (tOp (rI0 fun i j => .bl (decide (i ≤ j))) (tOp (rIxT K) (tVar 10) (tC (.int 3))) (tVar 4)))) (te := (tOp (rIxT K) (tVar 10) (tC (.int 2)))) rfl sc_l_by_walks.nd rfl rfl (sw_true rfl rfl rfl (by decide +kernel)) (pi_list (pv 7)) (blkOk_by (own := [("end", 10)]) (N := ["web", "rest", "start", "goal", "last", "first", "found", "ends", "leaves", "walk", "end", "meet"]) (sc := defScope s_l_by_walks) (by decide +kernel)) (fun _ _ _ _ _ => (pg_name (i := 10) sc_l_by_walks.nd rfl (.inl rfl))) (fun _ _ _ _ _ => pts_one (pt_cmpR op_le (pe_ix ix_tup (pv 10) pe_int (fun _ _ => rfl)) (pv 4) (nomark _))) (fun _ _ _ _ _ => pe_ix ix_tup (pv 10) pe_int (fun _ _ => rfl)))
      (pss_one (ps_ret (pe_tup (pa_cons (pe_callBK (cr_maxD rfl (hu_of hr)) (by rfl) T.max (by decide +kernel) (pa_cons (pv 8) pa_nil) (pk_cons pe_non pk_nil)) (pa_cons pe_bl pa_nil)))))))))), ?_⟩
  refine ⟨_, rfl, a, _, _, _, rfl, rfl, SqT.of ha, rfl, b, rfl, ⟨_, SqT.of hb⟩, fun D nD => ?_⟩
  refine lcT (R0 := T3) (R := fun _ x o => x = V.int o) (β := Int) kV0 (fun _ => true) (fun s => s.1) hb hm (by omega) nD (fun x r H1 k k0 sm hx hr hk hk0 => ?_) fun H1 ys s1 e1 t1 => ?_
  · obtain ⟨c, rfl, hc⟩ := hx.ke (.of sm)
    exact ⟨rfl, yesT ⟨_, rfl, c, _, _, _, rfl, rfl, SqT.of hc, rfl, hk rfl _ H1 (Same.refl _) rfl⟩⟩
  rw [filter_yes] at t1
  rw [pr_eq t1] at e1
  refine ⟨(by show 1 ≤ sizeLine; decide), fun p2 n2 => gen n2 fun H2 s2 e2 => ⟨D, p2, _, _, rfl, rfl, s2 _ _ e1, e2, z100 (by rw [List.length_map, List.length_map]; show _ + 1 ≤ _; omega), fun l nl => gen nl fun H3 s3 e3 => ?_⟩⟩
  rw [← moms_map] at e3
  have s13 := (s1.trans s2).trans s3
  have ml := moms_len W
  refine ⟨l, _, rfl, SqL.of e3, by omega, fun first _ hfirst => ?_⟩
  refine ⟨Nat.zero_le _, fun pE nE => gen nE fun H4 s4 e4 => ?_⟩
  have s14 := s13.trans s4
  refine ⟨_, rfl, _, rfl, _, rfl, _, rfl, _, rfl, .ref a, W, rest, first, start, goal, rfl, hW.ke (.of s14), ok, hst, fun H5 s5 => ?_, fun pW H5 fv ws ss np5 s5 e5 f5 mem5 mw5 len5 => ?_⟩
  · refine ⟨true, R.e, fun _ a0 _ => ?_, fun q => Bool.noConfusion q⟩
    refine ⟨two_le, fun p6 n6 => gen n6 fun H6 s6 e6 => ?_⟩
    exact q p6 H6 none false ((s14.trans s5).trans s6) e6 fun z => by cases z
  have s15 := s14.trans s5
  have hws : ∀ w, w ∈ ws → ∃ t0 t1, Plain (St W) rest start goal t0 t1 w := fun w hw => ((mw5 w).mp hw).plain (fun s hs => ((mem5 s).mp hs).1) hne
  have hfvl : fv.length = ws.length := pr_len f5
  refine ⟨_, rfl, pW, rfl, ⟨_, SqL.of e5⟩, fun D6 nD6 => ?_⟩
  refine lcL (R0 := TupOfs) (R := E4) (β := Int × Int) kE4 (fun _ => true) ends e5 f5 (by omega) nD6 (fun x r H6 k k0 sm hx hr hk hk0 => ?_) fun H6 ys6 s6 e6 t6 => ?_
  · obtain ⟨t0, t1, Pn⟩ := hws r hr
    obtain ⟨s0, g1, _, _⟩ := Pn.walk.first
    obtain ⟨s1', g2, _, _⟩ := Pn.walk.last
    refine ⟨rfl, yesT ⟨_, rfl, x, r, s0, s1', rfl, hx.ke (.of sm), g1, g2, fun p7 H7 np7 s7 e7 => hk rfl _ H7 s7 ⟨p7, (s0.2.1 : Int), (s1'.2.2 : Int), rfl, ?_⟩⟩⟩
    rw [e7]
    unfold ends
    rw [List.getD_eq_getElem?_getD, List.getD_eq_getElem?_getD, g1, g2]
    rfl
  rw [filter_yes] at t6
  refine ⟨_, rfl, D6, rfl, ⟨_, SqL.of e6⟩, fun D7 nD7 => ?_⟩
  refine lcL (R0 := E4) (R := fun _ x o => x = V.int o) (β := Int) kV0 (fun e => decide (e.2 ≤ last)) (fun e => e.1) e6 t6 (by rw [List.length_map]; omega) nD7 (fun x r H7 k k0 sm hx hr hk hk0 => ?_) fun H7 ys7 s7 e7 t7 => ?_
  · obtain ⟨p7, u, v, rfl, h7⟩ := kE4 _ _ _ _ (.of sm) hx
    refine ⟨rfl, _, rfl, p7, _, _, _, rfl, rfl, SqT.of h7, rfl, _, rfl, _, _, rfl, rfl, _, rfl, ?_⟩
    by_cases e : r.2 ≤ last
    · rw [decide_eq_true e]
      exact iteT ⟨_, rfl, p7, _, _, _, rfl, rfl, SqT.of h7, rfl, hk (decide_eq_true e) _ H7 (Same.refl _) rfl⟩
    · rw [decide_eq_false e]
      exact iteF (hk0 (decide_eq_false e) H7 (Same.refl _))
  rw [pr_eq t7] at e7
  have s17 := (s15.trans s6).trans s7
  have hns : ∀ x, x ∈ ((ws.map ends).filter (fun e => decide (e.2 ≤ last))).map (fun e => e.1) ↔ ∃ w t1, Plain (St W) rest start goal x t1 w ∧ t1 ≤ last := fun x => by
    rw [List.mem_map]
    constructor
    · rintro ⟨e, he, rfl⟩
      obtain ⟨h1, h2⟩ := List.mem_filter.mp he
      obtain ⟨w, hw, rfl⟩ := List.mem_map.mp h1
      obtain ⟨t0, t1, Pn⟩ := hws w hw
      have h2' := of_decide_eq_true h2
      rw [ends_of Pn.walk] at h2' ⊢
      exact ⟨w, t1, Pn, h2'⟩
    · rintro ⟨w, t1, Pn, le⟩
      refine ⟨ends w, List.mem_filter.mpr ⟨List.mem_map_of_mem ((mw5 w).mpr (compl_of (fun s hs => (mem5 s).mpr ⟨hs, ?_⟩) Pn)), ?_⟩, by rw [ends_of Pn.walk]⟩
      · rcases hs with z | z
        · exact hfirst s.1 (List.mem_append_left _ (List.mem_map_of_mem (f := fun s : Step => s.1) z))
        · exact hfirst s.1 (List.mem_append_left _ (List.mem_map.mpr ⟨_, z, rfl⟩))
      · rw [ends_of Pn.walk]
        exact decide_eq_true le
  refine ⟨_, rfl, D7, _, rfl, rfl, SqL.of e7, fun en => ?_, fun m hm hmax => ?_⟩
  · refine ⟨two_le, fun p8 n8 => gen n8 fun H8 s8 e8 => ?_⟩
    exact q p8 H8 none true (s17.trans s8) e8 fun _ => la.walks ok h0 hst hne hns (.inl ⟨en, rfl⟩)
  · refine ⟨two_le, fun p8 n8 => gen n8 fun H8 s8 e8 => ?_⟩
    exact q p8 H8 (some m) true (s17.trans s8) e8 fun _ => la.walks ok h0 hst hne hns (.inr ⟨m, rfl, hm, hmax⟩)
end
end Wm
end
section
set_option Elab.async false
set_option linter.all false
set_option maxRecDepth 100000
set_option maxHeartbeats 4000000
namespace Wm
open PySem PySem.Spec PyProof.Rows L2
theorem neN {a b : Nat} : (!decide (V.int (a : Int) = V.int (b : Int))) = decide (a ≠ b) := by
  by_cases h : a = b
  · rw [h, decide_eq_true (rfl : V.int (b : Int) = V.int (b : Int)), decide_eq_false (fun z => z rfl)]
    rfl
  · rw [decide_eq_false (fun z => h (by injection z with z; omega)), decide_eq_true h]
    rfl
section
variable {P : Program} {w : World} {K : PySem.W.Frag} {mg : Str → Option Value} {base : Heap} {C : Addr}
/-! ### _law_walks_right -/
abbrev sp_l_walks_right : Sp := sp_three
theorem scal_oV (o : Option Int) : scal (oV o) (oV o) = true := by cases o <;> rfl
theorem sc_l_walks_right : FnScope ["pool", "web", "rest", "goal", "last", "told", "turn", "start", "leaves", "known"] ["pool", "web", "rest", "goal", "last", "told"] (defScope s_l_walks_right) := ⟨rfl, rfl, rfl, by decide +kernel, rfl, by decide +kernel, by decide +kernel⟩
theorem ok_l_walks_right (hh : Here K mg "_law_walks_right" s_l_walks_right) (T : Tp K mg) (F_l_next : Fn P w K mg base CX0 1 "_law_next" ["pool", "base"] sp_l_next) (F_l_by_walks : Fn P w K mg base CX0 12 "_law_by_walks" ["web", "rest", "start", "goal", "last"] sp_l_by_walks) : Fn P w K mg base CX0 13 "_law_walks_right" ["pool", "web", "rest", "goal", "last", "told"] sp_l_walks_right := by
  refine fn_mk hh sc_l_walks_right (fun vs H Q E h => ?_) (fun _ _ _ _ _ _ us hl => match us, hl with | [_, _, _, _, _, _], _ => rfl) (fun f cdv A outer s H vs Q E hr h => ?_)
  · obtain ⟨p, x, W, rest, goal, last, ta, told, rfl, _⟩ := h
    rfl
  obtain ⟨p, x, W, rest, goal, last, ta, told, rfl, G, q⟩ := h
  obtain ⟨pl, hW, ok, h0, hu, hgo, ht, hne, la⟩ := id G
  obtain ⟨a, z, rfl, ha, b, ms, rfl, hb, hm⟩ := id hW
  have hm7 := ok.le
  have hm1 := ok.pos
  refine ⟨_, (pss_cons (ps_for PassesOwn.never rfl (pi_range1 (by rfl) T.range (pa_cons pe_int pa_nil)) (pg_name (i := 6) sc_l_walks_right.nd rfl (.inl rfl))
        (pss_cons (ps_set (i := 7) sc_l_walks_right.nd rfl (.inl rfl) (pe_fn F_l_next (hr.mono (by decide)) (by rfl) (pa_cons (pv 0) (pa_cons (pe_ix ix_tup (pv 1) pe_int (fun _ _ => rfl)) pa_nil))))
        (pss_one (ps_if (pt_cmpR op_ne (pv 7) (pv 3) (nomark _))
          (pss_cons (ps_asg (pe_fn F_l_by_walks (hr.mono (by decide)) (by rfl) (pa_cons (pv 1) (pa_cons (pv 2) (pa_cons (pv 7) (pa_cons (pv 3) (pa_cons (pv 4) pa_nil)))))) (pg_tup rfl (pgs_cons (pg_name (i := 8) sc_l_walks_right.nd rfl (.inl rfl)) (pgs_cons (pg_name (i := 9) sc_l_walks_right.nd rfl (.inl rfl)) pgs_nil))))
          (pss_one (ps_if (PW.pt (pw_and (pt_val (pv 9)) (pw_and1 (pt_cmpR op_ne (pv 8) (pe_ix ix_list (pv 5) (pv 7) (fun _ _ => rfl)) (nomark _)))))
            (pss_one (ps_ret pe_bl))
            pss_nil)))
          pss_nil))))
      (pss_one (ps_ret pe_bl))), ?_⟩
  refine ⟨2, rfl, by decide, by decide, for_range (lo := 0) (n := 2) (fun i σ H' => (∃ o6 o7 o8 o9, σ = [some (.ref p), some (.ref a), some (.int rest), some (nV goal), some (.int last), some (.ref ta), o6, o7, o8, o9]) ∧ Sb p H H' ∧ Pl H' p) ⟨⟨_, _, _, _, rfl⟩, .refl, pl⟩ ?_ ?_⟩
  · rintro i σ H' hi ⟨⟨o6, o7, o8, o9, rfl⟩, sb, pl'⟩
    have k' := pl.ke sb
    refine ⟨_, rfl, _, rfl, a, _, _, _, rfl, rfl, SqT.of (k' _ _ ha), rfl, p, W.many, rfl, pl', by omega, by omega, fun v H1 s1 p1 l1 u1 => ?_⟩
    obtain ⟨vn, rfl⟩ := Int.eq_ofNat_of_zero_le l1
    have hvn : vn < W.many := by omega
    have sb1 := sb.trans s1
    have k1 := pl.ke sb1
    refine ⟨_, rfl, _, rfl, rfl, _, rfl, ?_⟩
    by_cases en : vn = goal
    · have : (!decide (V.int (vn : Int) = V.int (goal : Int))) = false := by rw [neN, decide_eq_false (fun z => z en)]
      rw [this]
      exact iteF ⟨⟨_, _, _, _, rfl⟩, sb1, p1⟩
    · have : (!decide (V.int (vn : Int) = V.int (goal : Int))) = true := by rw [neN, decide_eq_true en]
      rw [this]
      refine iteT ⟨_, rfl, _, rfl, _, rfl, _, rfl, _, rfl, .ref a, W, rest, vn, goal, last, told, rfl, hW.ke k1, ok, h0, hvn, en, la, fun p2 H2 o kn s2 e2 hk => ?_⟩
      have sb2 := sb1.trans (.of s2)
      refine ⟨p2, _, rfl, SqT.of e2, rfl, _, _, rfl, _, _, rfl, rfl, ?_⟩
      cases kn with
      | false => exact ⟨_, rfl, _, rfl, iteF (iteF ⟨⟨_, _, _, _, rfl⟩, sb2, p1.same s2⟩)⟩
      | true =>
        refine ⟨_, rfl, _, rfl, iteT ⟨_, rfl, _, rfl, _, rfl, ta, _, _, _, rfl, rfl, SqL.of (sb2 _ _ hne ht), oGet (hk rfl), scal_oV o, _, rfl, ?_⟩⟩
        rw [decide_eq_true (rfl : oV o = oV o)]
        exact iteF ⟨⟨_, _, _, _, rfl⟩, sb2, p1.same s2⟩
  · rintro σ H' ⟨⟨o6, o7, o8, o9, rfl⟩, sb, pl'⟩
    exact q H' sb pl'
/-! ### _law_put_together -/
def two (u v : Int) : PyData := .tuple [.int u, .int v]
theorem two_shaped (u v : Int) : SeqAt.shaped (two u v) = true := shaped_of (by simp [two, PyData.canLay0, PyData.canLayAll0]) (by simp [two, PyData.depth, PyData.depthAll])
theorem two_eqv (u v : Int) : PyData.eqv (two u v) (two u v) = true := by simp [two, PyData.eqv, PyData.eqvAll]
theorem two_dp {H : Hp} {p : Addr} {u v : Int} (h : H p = some (.tup [.int u, .int v])) : Dp K H (.ref p) (two u v) := .tup (SqT.of h) (.cons (.int _) (.cons (.int _) .nil))
theorem st_in {W : Web} (o : WebOk W) {s : Step} (h : St W s) : s.2.1 ≠ s.2.2 ∧ (s.1, min s.2.1 s.2.2, max s.2.1 s.2.2) ∈ W.meets := by
  refine ⟨(o.st h).1, ?_⟩
  rcases h with z | z
  · have := (o.ok _ z).1
    rw [Nat.min_eq_left (by omega), Nat.max_eq_right (by omega)]
    exact z
  · have : s.2.2 < s.2.1 := (o.ok _ z).1
    rw [Nat.min_eq_right (by omega), Nat.max_eq_left (by omega)]
    exact z
def sp_l_put_together : Sp := fun vs H Q _ => ∃ (x : V) (W : Web) (rest first last : Int) (start goal : Nat), vs = [x, .int rest, nV start, .int first, nV goal, .int last] ∧ WebAt H x W ∧ WebOk W ∧ 0 ≤ rest ∧ start < W.many ∧ goal < W.many ∧ ∀ H', Same H H' → Q (.bl true) H'
theorem sc_l_put_together : FnScope ["web", "rest", "start", "first", "goal", "last", "place", "walk"] ["web", "rest", "start", "first", "goal", "last"] (defScope s_l_put_together) := ⟨rfl, rfl, rfl, by decide +kernel, rfl, by decide +kernel, by decide +kernel⟩
theorem ok_l_put_together (hh : Here K mg "_law_put_together" s_l_put_together) (T : Tp K mg) (F_in_time : Fn P w K mg base CX0 5 "in_time" ["web", "rest", "start", "first", "goal", "last"] sp_in_time) (F_soonest_walk : Fn P w K mg base CX0 3 "soonest_walk" ["web", "rest", "start", "goal", "first"] sp_soonest_walk) (F_latest_walk : Fn P w K mg base CX0 4 "latest_walk" ["web", "rest", "start", "goal", "last"] sp_latest_walk) (F_walk_right : Fn P w K mg base CX0 3 "walk_right" ["web", "rest", "walk"] sp_walk_right) (F_walk_ends : Fn P w K mg base CX0 1 "walk_ends" ["walk"] sp_walk_ends) : Fn P w K mg base CX0 6 "_law_put_together" ["web", "rest", "start", "first", "goal", "last"] sp_l_put_together := by
  refine fn_mk hh sc_l_put_together (fun vs H Q E h => ?_) (fun _ _ _ _ _ _ us hl => match us, hl with | [_, _, _, _, _, _], _ => rfl) (fun f cdv A outer s H vs Q E hr h => ?_)
  · obtain ⟨x, W, rest, first, last, start, goal, rfl, _⟩ := h
    rfl
  obtain ⟨x, W, rest, first, last, start, goal, rfl, hW, ok, h0, hst, hgo, q⟩ := h
  refine ⟨_, (pss_cons (ps_for PassesOwn.never rfl (pi_list (pe_fn F_in_time (hr.mono (by decide)) (by rfl) (pa_cons (pv 0) (pa_cons (pv 1) (pa_cons (pv 2) (pa_cons (pv 3) (pa_cons (pv 4) (pa_cons (pv 5) pa_nil)))))))) (pg_name (i := 6) sc_l_put_together.nd rfl (.inl rfl))
        (pss_one (ps_if (PW.pt (pw_and (pt_cmpR op_ne (pv 6) (pv 2) (nomark _)) (pw_and1 (pt_cmpR op_ne (pv 6) (pv 4) (nomark _)))))
          (pss_cons (ps_set (i := 7) sc_l_put_together.nd rfl (.inl rfl) (pe_fn F_soonest_walk (hr.mono (by decide)) (by rfl) (pa_cons (pv 0) (pa_cons (pv 1) (pa_cons (pv 2) (pa_cons (pv 6) (pa_cons (pv 3) pa_nil)))))))
          (pss_cons (ps_set (i := 7) sc_l_put_together.nd rfl (.inl rfl) (pe_op op_catA (pv 7) (pe_fn F_latest_walk (hr.mono (by decide)) (by rfl) (pa_cons (pv 0) (pa_cons (pv 1) (pa_cons (pv 6) (pa_cons (pv 4) (pa_cons (pv 5) pa_nil))))))))
          (pss_cons (ps_if (pt_cmpR op_notBl (pe_fn F_walk_right (hr.mono (by decide)) (by rfl) (pa_cons (pv 0) (pa_cons (pv 1) (pa_cons (pv 7) pa_nil)))) pe_bl (nomark _))
            (pss_one (ps_ret pe_bl))
            pss_nil)
          (pss_cons (ps_if (pt_cmpR (op_neD (ru64 hr)) (pe_slice sl_tupA (pe_fn F_walk_ends (hr.mono (by decide)) (by rfl) (pa_cons (pv 7) pa_nil)) po_none (po_some pe_int)) (pe_tup (pa_cons (pv 2) (pa_cons (pv 4) pa_nil))) (nomark _))
            (pss_one (ps_ret pe_bl))
            pss_nil)
          (pss_one (ps_if (PW.pt (pw_or (pt_cmpR op_lt (pe_ix ix_tup (pe_ix ix_tup (pv 7) pe_int (fun _ _ => rfl)) pe_int (fun _ _ => rfl)) (pv 3) (nomark _)) (pw_or1 (pt_cmpR op_gt (pe_ix ix_tup (pe_ix ix_tup (pv 7) (pe_un un_neg pe_int) (fun _ _ => rfl)) pe_int (fun _ _ => rfl)) (pv 5) (nomark _)))))
            (pss_one (ps_ret pe_bl))
            pss_nil))))))
          pss_nil)))
      (pss_one (ps_ret pe_bl))), ?_⟩
  refine ⟨_, rfl, _, rfl, _, rfl, _, rfl, _, rfl, _, rfl, x, W, rest, first, last, start, goal, rfl, hW, ok, h0, hst, hgo, fun pT H1 ps np1 s1 e1 hin => ?_⟩
  refine ⟨pT, rfl, ⟨_, SqL.of e1⟩, for_list (K := K) (a := pT) (xs := ps.map nV) (fun i σ H' => (∃ o6 o7, σ = [some x, some (.int rest), some (nV start), some (.int first), some (nV goal), some (.int last), o6, o7]) ∧ Same H1 H') ⟨⟨_, _, rfl⟩, .refl _⟩ (fun i σ H' _ pv => SqL.of (pv.2 _ _ e1)) ?_ ?_⟩
  · rintro i y σ H' hi ⟨⟨o6, o7, rfl⟩, sm⟩
    obtain ⟨v, hv, rfl⟩ : ∃ v, v ∈ ps ∧ y = nV v := by
      have := List.mem_of_getElem? hi
      obtain ⟨v, h1, h2⟩ := List.mem_map.mp this
      exact ⟨v, h1, h2.symm⟩
    obtain ⟨hvm, hvi⟩ := hin v hv
    have s1H := s1.trans sm
    refine ⟨_, rfl, _, rfl, rfl, _, rfl, ?_⟩
    by_cases c1 : v = start
    · have : (!decide (V.int (v : Int) = V.int (start : Int))) = false := by rw [neN, decide_eq_false (fun z => z c1)]
      rw [this]
      exact iteF (iteF ⟨⟨_, _, rfl⟩, sm⟩)
    have d1 : (!decide (V.int (v : Int) = V.int (start : Int))) = true := by rw [neN, decide_eq_true c1]
    rw [d1]
    refine iteT ⟨_, rfl, _, rfl, rfl, _, rfl, ?_⟩
    by_cases c2 : v = goal
    · have : (!decide (V.int (v : Int) = V.int (goal : Int))) = false := by rw [neN, decide_eq_false (fun z => z c2)]
      rw [this]
      exact iteF ⟨⟨_, _, rfl⟩, sm⟩
    have d2 : (!decide (V.int (v : Int) = V.int (goal : Int))) = true := by rw [neN, decide_eq_true c2]
    rw [d2]
    rcases hvi with z | z | ⟨ta, tb, la, lb, le⟩
    · exact absurd z c1
    · exact absurd z c2
    refine iteT ⟨_, rfl, _, rfl, _, rfl, _, rfl, _, rfl, x, W, rest, first, start, v, ta, rfl, hW.ke (.of s1H), ok, h0, hst, hvm, c1, la.1, fun v2 H2 ws2 t20 t21 s2 tw2 wk2 hf2 least2 len2 => ?_⟩
    have s2H := s1H.trans s2
    refine ⟨_, rfl, _, rfl, _, rfl, _, rfl, _, rfl, _, rfl, x, W, rest, last, v, goal, 0 - tb, rfl, hW.ke (.of s2H), ok, h0, hvm, hgo, c2, lb.1, fun v3 H3 ws3 t30 t31 s3 tw3 wk3 hl3 least3 len3 => ?_⟩
    have s3H := s2H.trans s3
    have e21 := least2.eq la
    have e30 := least3.eq lb
    have wk := wk2.append wk3 (by omega)
    obtain ⟨b2, xs2, rfl, hb2, hm2⟩ := tw2
    obtain ⟨b3, xs3, rfl, hb3, hm3⟩ := tw3
    have hl2 := pr_len hm2
    have hl3' := pr_len hm3
    have hp2 := wk2.pos
    have hp3 := wk3.pos
    refine ⟨b2, b3, xs2, xs3, rfl, rfl, SqT.of (s3 _ _ hb2), SqT.of hb3, z100 (by omega), fun e => ?_, fun _ e => ?_, fun _ _ p4 n4 => gen n4 fun H4 s4 e4 => ?_⟩
    · rw [e] at hl2
      simp at hl2
      omega
    · rw [e] at hl3'
      simp at hl3'
      omega
    have tw : TupOfs H4 (.ref p4) (ws2 ++ ws3) := ⟨p4, _, rfl, e4, pr_append (T3s.ke hm2 (.of (s3.trans s4))) (T3s.ke hm3 (.of s4))⟩
    have wl : (ws2 ++ ws3).length = ws2.length + ws3.length := List.length_append
    have s4H := s3H.trans s4
    refine ⟨_, rfl, _, rfl, _, rfl, x, _, W, rest, ws2 ++ ws3, rfl, hW.ke (.of s4H), tw, by omega, by omega, fun s hs => st_in ok (wk.all s hs), wk.ch, fun H5 s5 => ?_⟩
    refine ⟨_, _, rfl, rfl, _, rfl, iteF ?_⟩
    obtain ⟨sf, g1, g2, g3⟩ := wk.first
    obtain ⟨sl, g4, g5, g6⟩ := wk.last
    refine ⟨_, rfl, _, ws2 ++ ws3, sf, sl, rfl, tw.ke (.of s5), g1, g4, fun p6 H6 np6 s6 e6 => ?_⟩
    refine ⟨2, rfl, p6, _, rfl, SqT.of e6, fun e => ?_, fun _ p7 n7 => gen n7 fun H7 s7 e7 => ?_⟩
    · exact absurd (show HT.sIx 4 4 (some 2) = 4 from e.2) (by decide)
    have e7' : H7 p7 = some (.tup [nV start, nV goal]) := by
      rw [e7, g2, g5]
      rfl
    refine ⟨_, rfl, _, rfl, two_le, fun p8 n8 => gen n8 fun H8 s8 e8 => ⟨_, _, two_dp (s8 _ _ e7'), two_dp e8, two_shaped _ _, two_shaped _ _, _, rfl, ?_⟩⟩
    rw [two_eqv]
    refine iteF ?_
    have s58 := ((s5.trans s6).trans s7).trans s8
    obtain ⟨b8, xs8, eb, hb8, hm8⟩ := tw.ke (.of s58)
    cases eb
    obtain ⟨x0, hx0, c0, rfl, ec0⟩ := pr_get' hm8 g1
    obtain ⟨xl, hxl, cl, rfl, ecl⟩ := pr_get' hm8 g4
    have gl : atI xs8 (-1 : Int) = some (V.ref cl) := atI_m1 (by rw [pr_len hm8]; exact hxl)
    have g0 : atI xs8 (0 : Int) = some (V.ref c0) := atI_nat (j := 0) hx0
    have s48 := (((sm.trans s2).trans s3).trans s4).trans s58
    refine ⟨_, rfl, _, _, _, _, rfl, rfl, SqT.of hb8, g0, c0, _, _, _, rfl, rfl, SqT.of ec0, rfl, _, rfl, _, _, rfl, rfl, _, rfl, ?_⟩
    rw [decide_eq_false (show ¬ sf.1 < first by omega)]
    refine iteF ⟨_, rfl, _, rfl, _, _, _, _, rfl, rfl, SqT.of hb8, gl, cl, _, _, _, rfl, rfl, SqT.of ecl, rfl, _, rfl, _, _, rfl, rfl, _, rfl, ?_⟩
    rw [decide_eq_false (show ¬ last < sl.1 by omega)]
    exact iteF ⟨⟨_, _, rfl⟩, s48⟩
  · rintro σ H' ⟨⟨o6, o7, rfl⟩, sm⟩
    exact q H' (s1.trans sm)
end
end Wm
end
section
set_option Elab.async false
set_option linter.all false
set_option maxRecDepth 100000
set_option maxHeartbeats 4000000
namespace Wm
open PySem PySem.Spec PyProof.Rows L2
theorem Given.step {H H' : Hp} {p : Addr} {x : V} {W : Web} {rest : Int} {goal : Nat} {last : Int} {ta : Addr} {told : List (Option Int)} (G : Given H p x W rest goal last ta told) (s : Sb p H H') (pl : Pl H' p) : Given H' p x W rest goal last ta told :=
  ⟨pl, G.gw.ke (G.gp.ke s), G.gok, G.g0, G.gu, G.gg, s _ _ G.gn G.gt, G.gn, G.gl⟩
section
variable {P : Program} {w : World} {K : PySem.W.Frag} {mg : Str → Option Value} {base : Heap} {C : Addr}
/-! ### law -/
def sp_law (K : PySem.W.Frag) : Sp := fun vs H Q _ => ∃ (a : Addr) (ns : List Int), vs = [.ref a] ∧ SqL K H a (ns.map V.int) ∧ ns.length ≤ 63 ∧ ∀ H', Q (.bl true) H'
theorem sc_law : FnScope ["script", "cell", "pool", "web", "rest", "goal", "last", "told", "first", "start", "meet"] ["script"] (defScope s_law) := ⟨rfl, rfl, rfl, by decide +kernel, rfl, by decide +kernel, by decide +kernel⟩
theorem fnok_mk {x : Str} {st : Stmt} {N ps : List Str} {k : Nat} {sp : Sp} {f : Addr} {fd : FuncData} (F : FunD K x x (defArgs st) (defBody st) (defScope st) [] [] f fd) (S : FnScope N ps (defScope st)) (len : ∀ vs H Q E, sp vs H Q E → vs.length = ps.length)
    (hbody : ∀ (cdv : Value) (A : Around) (outer : List Env) (s : Shared) (H : Hp) (vs : List V) (Q : VK) (E : XK), Room k (A.deeper (envOfC x (defScope st) s.heap.objs.size f cdv)) → sp vs H Q E →
      ∃ t, PSs (cxOf CX0 P w K mg base N x (defScope st) f cdv A outer s H E).nox (defBody st) t ∧ t { nx := fun _ H' => Q .non H', rt := Q } (start N vs) H) : FnOk P w K mg base CX0 (k + 1) f fd ps sp :=
  F.ok S len fun cdv A outer s H vs Q E hr h => by
    obtain ⟨t, h1, h2⟩ := hbody cdv A outer s H vs Q E hr h
    exact ⟨t, h1.nox, h2⟩
theorem ok_law {f : Addr} {fd : FuncData} (hh : FunD K "law" "law" (defArgs s_law) (defBody s_law) (defScope s_law) [] [] f fd) (T : Tp K mg) (F_l_folded : Fn P w K mg base CX0 1 "_law_folded" ["script", "most"] (sp_l_folded K)) (F_l_pool : Fn P w K mg base CX0 1 "_law_pool" ["cell"] sp_l_pool) (F_l_web : Fn P w K mg base CX0 4 "_law_web" ["pool"] sp_l_web) (F_l_rest : Fn P w K mg base CX0 2 "_law_rest" ["pool"] sp_l_rest) (F_l_next : Fn P w K mg base CX0 1 "_law_next" ["pool", "base"] sp_l_next) (F_latest_to : Fn P w K mg base CX0 4 "latest_to" ["web", "rest", "goal", "last"] sp_latest_to) (F_l_till : Fn P w K mg base CX0 3 "_law_till" ["pool", "web"] sp_l_till) (F_l_moved_right : Fn P w K mg base CX0 5 "_law_moved_right" ["pool", "web", "rest", "goal", "last", "told"] sp_l_moved_right) (F_l_changed_right : Fn P w K mg base CX0 5 "_law_changed_right" ["pool", "web", "rest", "goal", "last", "told"] sp_l_changed_right) (F_l_walks_right : Fn P w K mg base CX0 13 "_law_walks_right" ["pool", "web", "rest", "goal", "last", "told"] sp_l_walks_right) (F_l_put_together : Fn P w K mg base CX0 6 "_law_put_together" ["web", "rest", "start", "first", "goal", "last"] sp_l_put_together) : FnOk P w K mg base CX0 14 f fd ["script"] (sp_law K) := by
  refine fnok_mk hh sc_law (fun vs H Q E h => ?_) (fun cdv A outer s H vs Q E hr h => ?_)
  · obtain ⟨a, ns, rfl, _⟩ := h
    rfl
  obtain ⟨a, ns, rfl, hS, h63, q⟩ := h
  refine ⟨_, (pss_cons (ps_for PassesOwn.never rfl (pi_list (pe_op op_cat (pe_lst (pa_cons pe_int pa_nil)) (pe_fn F_l_folded (hr.mono (by decide)) (by rfl) (pa_cons (pv 0) (pa_cons pe_int pa_nil))))) (pg_name (i := 1) sc_law.nd rfl (.inl rfl))
        (pss_cons (ps_set (i := 2) sc_law.nd rfl (.inl rfl) (pe_fn F_l_pool (hr.mono (by decide)) (by rfl) (pa_cons (pv 1) pa_nil)))
        (pss_cons (ps_set (i := 3) sc_law.nd rfl (.inl rfl) (pe_fn F_l_web (hr.mono (by decide)) (by rfl) (pa_cons (pv 2) pa_nil)))
        (pss_cons (ps_set (i := 4) sc_law.nd rfl (.inl rfl) (pe_fn F_l_rest (hr.mono (by decide)) (by rfl) (pa_cons (pv 2) pa_nil)))
        (pss_cons (ps_set (i := 5) sc_law.nd rfl (.inl rfl) (pe_fn F_l_next (hr.mono (by decide)) (by rfl) (pa_cons (pv 2) (pa_cons (pe_ix ix_tup (pv 3) pe_int (fun _ _ => rfl)) pa_nil))))
        (pss_cons (ps_set (i := 6) sc_law.nd rfl (.inl rfl) (pe_callB (call_min2 rfl) (by rfl) T.min (by decide +kernel) (pa_cons (pe_fn F_l_till (hr.mono (by decide)) (by rfl) (pa_cons (pv 2) (pa_cons (pv 3) pa_nil))) (pa_cons (pe_op op_sub (pe_op op_pow pe_int pe_int) pe_int) pa_nil))))
        (pss_cons (ps_set (i := 7) sc_law.nd rfl (.inl rfl) (pe_fn F_latest_to (hr.mono (by decide)) (by rfl) (pa_cons (pv 3) (pa_cons (pv 4) (pa_cons (pv 5) (pa_cons (pv 6) pa_nil))))))
        (pss_cons (ps_if (pt_not (pt_val (pe_fn F_l_moved_right (hr.mono (by decide)) (by rfl) (pa_cons (pv 2) (pa_cons (pv 3) (pa_cons (pv 4) (pa_cons (pv 5) (pa_cons (pv 6) (pa_cons (pv 7) pa_nil)))))))))
          (pss_one (ps_ret pe_bl))
          pss_nil)
        (pss_cons (ps_if (pt_not (pt_val (pe_fn F_l_changed_right (hr.mono (by decide)) (by rfl) (pa_cons (pv 2) (pa_cons (pv 3) (pa_cons (pv 4) (pa_cons (pv 5) (pa_cons (pv 6) (pa_cons (pv 7) pa_nil)))))))))
          (pss_one (ps_ret pe_bl))
          pss_nil)
        (pss_cons (ps_if (pt_not (pt_val (pe_fn F_l_walks_right (hr.mono (by decide)) (by rfl) (pa_cons (pv 2) (pa_cons (pv 3) (pa_cons (pv 4) (pa_cons (pv 5) (pa_cons (pv 6) (pa_cons (pv 7) pa_nil)))))))))
          (pss_one (ps_ret pe_bl))
          pss_nil)
        (pss_cons (ps_set (i := 8) sc_law.nd rfl (.inl rfl) (pe_callB (cr_min rfl) (by rfl) T.min (by decide +kernel) (pa_cons (pe_op op_cat (pe_lst (pa_cons (pv 6) pa_nil)) (pe_lc (own := [("meet", 10)]) (g := gName 10) (tt := tYes) (te := (tOp (rIxT K) (tVar 10) (tC (.int 0)))) rfl sc_law.nd (pi_tup (pe_ix ix_tup (pv 3) pe_int (fun _ _ => rfl))) (blkOk_by (own := [("meet", 10)]) (N := ["script", "cell", "pool", "web", "rest", "goal", "last", "told", "first", "start", "meet"]) (sc := defScope s_law) (by decide +kernel)) (fun _ _ _ _ _ => (pg_name (i := 10) sc_law.nd rfl (.inl rfl))) (fun _ _ _ _ _ => pts_nil) (fun _ _ _ _ _ => pe_ix ix_tup (pv 10) pe_int (fun _ _ => rfl)))) pa_nil)))
        (pss_one (ps_for PassesOwn.never rfl (pi_range1 (by rfl) T.range (pa_cons (pe_ix ix_tup (pv 3) pe_int (fun _ _ => rfl)) pa_nil)) (pg_name (i := 9) sc_law.nd rfl (.inl rfl))
          (pss_one (ps_if (pt_cmpR op_ne (pv 9) (pv 5) (nomark _))
            (pss_one (ps_if (pt_not (pt_val (pe_fn F_l_put_together (hr.mono (by decide)) (by rfl) (pa_cons (pv 3) (pa_cons (pv 4) (pa_cons (pv 9) (pa_cons (pv 8) (pa_cons (pv 5) (pa_cons (pv 6) pa_nil)))))))))
              (pss_one (ps_ret pe_bl))
              pss_nil))
            pss_nil)))))))))))))))
      (pss_one (ps_ret pe_bl))), ?_⟩
  refine ⟨(by show 1 ≤ sizeLine; decide), fun p1 n1 => gen n1 fun H1 s1 e1 => ?_⟩
  refine ⟨_, rfl, a, ns, rfl, s1.seq hS, h63, fun p2 H2 cs np2 s2 e2 hc8 => ?_⟩
  refine ⟨p1, p2, _, _, rfl, rfl, s2 _ _ e1, e2, z100 (by rw [List.length_map]; show 1 + _ ≤ _; omega), fun l nl => gen nl fun H3 s3 e3 => ?_⟩
  have e3' : LI H3 l (0 :: cs) := e3
  refine ⟨l, rfl, ⟨_, SqL.of e3'⟩, for_list (K := K) (a := l) (xs := (0 :: cs).map V.int) (fun i σ H' => (∃ o1 o2 o3 o4 o5 o6 o7 o8 o9 o10, σ = [some (.ref a), o1, o2, o3, o4, o5, o6, o7, o8, o9, o10]) ∧ Same H3 H') ⟨⟨_, _, _, _, _, _, _, _, _, _, rfl⟩, .refl _⟩ (fun i σ H' _ pv => SqL.of (pv.2 _ _ e3')) ?_ ?_⟩
  · rintro i x σ H0 hi ⟨⟨o1, o2, o3, o4, o5, o6, o7, o8, o9, o10, rfl⟩, sm⟩
    obtain ⟨c, rfl⟩ : ∃ c : Int, x = .int c := by
      obtain ⟨c, _, e⟩ := List.mem_map.mp (List.mem_of_getElem? hi)
      exact ⟨c, e.symm⟩
    refine ⟨_, rfl, c, rfl, fun p H4 np s4 pl4 => ?_⟩
    refine ⟨_, rfl, p, rfl, pl4, fun v H5 W s5 pl5 hW ok => ?_⟩
    obtain ⟨wa, wy, rfl, hwa, wb, ms, rfl, hwb, hwm⟩ := id hW
    have hm7 := ok.le
    have hm1 := ok.pos
    have hfew := ok.few
    refine ⟨_, rfl, p, rfl, pl5, fun rest H6 s6 pl6 r0 ru => ?_⟩
    have k6 := pl5.ke s6
    refine ⟨_, rfl, _, rfl, wa, _, _, _, rfl, rfl, SqT.of (k6 _ _ hwa), rfl, p, W.many, rfl, pl6, by omega, by omega, fun g H7 s7 pl7 g0 gu => ?_⟩
    obtain ⟨gn, rfl⟩ := Int.eq_ofNat_of_zero_le g0
    have hgo : gn < W.many := by omega
    have k7 := pl5.ke (s6.trans s7)
    refine ⟨_, rfl, _, rfl, p, .ref wa, W, rfl, pl7, hW.ke k7, ok, fun t H8 s8 pl8 => ?_⟩
    refine ⟨_, _, rfl, rfl, ⟨by decide, by decide, by decide⟩, _, _, rfl, rfl, _, _, rfl, ?_⟩
    generalize (if (10 : Int) ^ (30 : Int).toNat - 60 < t then (10 : Int) ^ (30 : Int).toNat - 60 else t) = last
    have s58 := (s6.trans s7).trans s8
    have k8 := pl5.ke s58
    refine ⟨_, rfl, _, rfl, _, rfl, _, rfl, .ref wa, W, rest, last, gn, rfl, hW.ke k8, ok, r0, hgo, fun ta H9 told np9 s9 e9 la => ?_⟩
    have tne : ta ≠ p := by
      obtain ⟨_, _, _, e⟩ := pl8
      exact (ne_of_none e np9).symm
    have s59 := s58.trans (.of s9)
    have G : Given H9 p (.ref wa) W rest gn last ta told := ⟨pl8.same s9, hW.ke (pl5.ke s59), ok, r0, ru, hgo, e9, tne, la⟩
    refine ⟨_, rfl, _, rfl, _, rfl, _, rfl, _, rfl, _, rfl, p, .ref wa, W, rest, gn, last, ta, told, rfl, G, fun H10 s10 pl10 => ?_⟩
    refine ⟨_, rfl, iteF ?_⟩
    have G10 := G.step s10 pl10
    refine ⟨_, rfl, _, rfl, _, rfl, _, rfl, _, rfl, _, rfl, p, .ref wa, W, rest, gn, last, ta, told, rfl, G10, fun H11 s11 pl11 => ?_⟩
    refine ⟨_, rfl, iteF ?_⟩
    have G11 := G10.step s11 pl11
    refine ⟨_, rfl, _, rfl, _, rfl, _, rfl, _, rfl, _, rfl, p, .ref wa, W, rest, gn, last, ta, told, rfl, G11, fun H12 s12 pl12 => ?_⟩
    refine ⟨_, rfl, iteF ?_⟩
    have s512 := ((s59.trans s10).trans s11).trans s12
    have k12 := pl5.ke s512
    have sm12 : Same H0 H12 := (s5.trans s512).same s4 np
    refine ⟨_, rfl, (by show 1 ≤ sizeLine; decide), fun p13 n13 => gen n13 fun H13 s13 e13 => ?_⟩
    have k13 := k12.trans (.of s13)
    refine ⟨_, rfl, wa, _, _, _, rfl, rfl, SqT.of (k13 _ _ hwa), rfl, wb, rfl, ⟨_, SqT.of (k13 _ _ hwb)⟩, fun D nD => ?_⟩
    refine lcT (R0 := T3) (R := fun _ x o => x = V.int o) (β := Int) kV0 (fun _ => true) (fun s => s.1) (k13 _ _ hwb) (T3s.ke hwm k13) (by omega) nD (fun x r H1 k k0 sm hx hr hk hk0 => ?_) fun H14 ys s14 e14 t14 => ?_
    · obtain ⟨c, rfl, hc⟩ := hx.ke (.of sm)
      exact ⟨rfl, yesT ⟨_, rfl, c, _, _, _, rfl, rfl, SqT.of hc, rfl, hk rfl _ H1 (Same.refl _) rfl⟩⟩
    rw [filter_yes] at t14
    rw [pr_eq t14] at e14
    refine ⟨p13, D, _, _, rfl, rfl, s14 _ _ e13, e14, z100 (by rw [List.length_map, List.length_map]; show 1 + _ ≤ _; omega), fun p15 n15 => gen n15 fun H15 s15 e15 => ?_⟩
    have e15' : LI H15 p15 (last :: W.meets.map fun s => s.1) := e15
    refine ⟨p15, _, rfl, SqL.of e15', Nat.succ_pos _, fun first _ _ => ?_⟩
    have s1215 := (s13.trans s14).trans s15
    have k15 := k12.trans (.of s1215)
    refine ⟨_, rfl, wa, _, _, _, rfl, rfl, SqT.of (k15 _ _ hwa), rfl, _, rfl, by omega, by omega, ?_⟩
    refine for_range (lo := 0) (n := W.many) (fun i σ H' => (∃ o9 o10, σ = [some (.ref a), some (.int c), some (.ref p), some (.ref wa), some (.int rest), some (nV gn), some (.int last), some (.ref ta), some (.int first), o9, o10]) ∧ Same H15 H') ⟨⟨_, _, rfl⟩, .refl _⟩ ?_ ?_
    · rintro j σ H' hj ⟨⟨o9, o10, rfl⟩, sm'⟩
      rw [Int.zero_add]
      refine ⟨_, rfl, _, rfl, rfl, _, rfl, ?_⟩
      by_cases ej : j = gn
      · have : (!decide (V.int (j : Int) = V.int (gn : Int))) = false := by rw [neN, decide_eq_false (fun z => z ej)]
        rw [this]
        exact iteF ⟨⟨_, _, rfl⟩, sm'⟩
      · have : (!decide (V.int (j : Int) = V.int (gn : Int))) = true := by rw [neN, decide_eq_true ej]
        rw [this]
        refine iteT ⟨_, rfl, _, rfl, _, rfl, _, rfl, _, rfl, _, rfl, .ref wa, W, rest, first, last, j, gn, rfl, hW.ke (k15.trans (.of sm')), ok, r0, hj, hgo, fun H16 s16 => ?_⟩
        exact ⟨_, rfl, iteF ⟨⟨_, _, rfl⟩, sm'.trans s16⟩⟩
    · rintro σ H' ⟨⟨o9, o10, rfl⟩, sm'⟩
      exact ⟨⟨_, _, _, _, _, _, _, _, _, _, rfl⟩, ((sm.trans sm12).trans s1215).trans sm'⟩
  · rintro σ H' ⟨⟨o1, o2, o3, o4, o5, o6, o7, o8, o9, o10, rfl⟩, sm⟩
    exact q H'
end
end Wm
end
section
set_option Elab.async false
set_option linter.all false
set_option maxRecDepth 100000
set_option maxHeartbeats 0
namespace Wm
open PySem PySem.Spec PyProof.Rows L2
def d_risen_meet : He.DefD := ⟨("risen_meet", none), "risen_meet", "risen_meet", defArgs s_risen_meet, defBody s_risen_meet, defScope s_risen_meet, [], []⟩
def d_put_meet : He.DefD := ⟨("put_meet", none), "put_meet", "put_meet", defArgs s_put_meet, defBody s_put_meet, defScope s_put_meet, [], []⟩
def d_less_meet : He.DefD := ⟨("less_meet", none), "less_meet", "less_meet", defArgs s_less_meet, defBody s_less_meet, defScope s_less_meet, [], []⟩
def d_turned_web : He.DefD := ⟨("turned_web", none), "turned_web", "turned_web", defArgs s_turned_web, defBody s_turned_web, defScope s_turned_web, [], []⟩
def d_later_web : He.DefD := ⟨("later_web", none), "later_web", "later_web", defArgs s_later_web, defBody s_later_web, defScope s_later_web, [], []⟩
def d_kept_web : He.DefD := ⟨("kept_web", none), "kept_web", "kept_web", defArgs s_kept_web, defBody s_kept_web, defScope s_kept_web, [], []⟩
def d_renamed_web : He.DefD := ⟨("renamed_web", none), "renamed_web", "renamed_web", defArgs s_renamed_web, defBody s_renamed_web, defScope s_renamed_web, [], []⟩
def d_is_step : He.DefD := ⟨("is_step", none), "is_step", "is_step", defArgs s_is_step, defBody s_is_step, defScope s_is_step, [], []⟩
def d_steps_of : He.DefD := ⟨("steps_of", none), "steps_of", "steps_of", defArgs s_steps_of, defBody s_steps_of, defScope s_steps_of, [], []⟩
def d_goes_on : He.DefD := ⟨("goes_on", none), "goes_on", "goes_on", defArgs s_goes_on, defBody s_goes_on, defScope s_goes_on, [], []⟩
def d_walk_right : He.DefD := ⟨("walk_right", none), "walk_right", "walk_right", defArgs s_walk_right, defBody s_walk_right, defScope s_walk_right, [], []⟩
def d_walk_ends : He.DefD := ⟨("walk_ends", none), "walk_ends", "walk_ends", defArgs s_walk_ends, defBody s_walk_ends, defScope s_walk_ends, [], []⟩
def d_put_walks : He.DefD := ⟨("put_walks", none), "put_walks", "put_walks", defArgs s_put_walks, defBody s_put_walks, defScope s_put_walks, [], []⟩
def d_plain_walks : He.DefD := ⟨("plain_walks", none), "plain_walks", "plain_walks", defArgs s_plain_walks, defBody s_plain_walks, defScope s_plain_walks, [], []⟩
def d_turned_walk : He.DefD := ⟨("turned_walk", none), "turned_walk", "turned_walk", defArgs s_turned_walk, defBody s_turned_walk, defScope s_turned_walk, [], []⟩
def d_can_go : He.DefD := ⟨("can_go", none), "can_go", "can_go", defArgs s_can_go, defBody s_can_go, defScope s_can_go, [], []⟩
def d_is_sooner : He.DefD := ⟨("is_sooner", none), "is_sooner", "is_sooner", defArgs s_is_sooner, defBody s_is_sooner, defScope s_is_sooner, [], []⟩
def d_soonest_tree : He.DefD := ⟨("soonest_tree", none), "soonest_tree", "soonest_tree", defArgs s_soonest_tree, defBody s_soonest_tree, defScope s_soonest_tree, [], []⟩
def d_soonest_from : He.DefD := ⟨("soonest_from", none), "soonest_from", "soonest_from", defArgs s_soonest_from, defBody s_soonest_from, defScope s_soonest_from, [], []⟩
def d_walk_along : He.DefD := ⟨("walk_along", none), "walk_along", "walk_along", defArgs s_walk_along, defBody s_walk_along, defScope s_walk_along, [], []⟩
def d_soonest_walk : He.DefD := ⟨("soonest_walk", none), "soonest_walk", "soonest_walk", defArgs s_soonest_walk, defBody s_soonest_walk, defScope s_soonest_walk, [], []⟩
def d_turned_moment : He.DefD := ⟨("turned_moment", none), "turned_moment", "turned_moment", defArgs s_turned_moment, defBody s_turned_moment, defScope s_turned_moment, [], []⟩
def d_turned_list : He.DefD := ⟨("turned_list", none), "turned_list", "turned_list", defArgs s_turned_list, defBody s_turned_list, defScope s_turned_list, [], []⟩
def d_latest_to : He.DefD := ⟨("latest_to", none), "latest_to", "latest_to", defArgs s_latest_to, defBody s_latest_to, defScope s_latest_to, [], []⟩
def d_latest_walk : He.DefD := ⟨("latest_walk", none), "latest_walk", "latest_walk", defArgs s_latest_walk, defBody s_latest_walk, defScope s_latest_walk, [], []⟩
def d_has_slack : He.DefD := ⟨("has_slack", none), "has_slack", "has_slack", defArgs s_has_slack, defBody s_has_slack, defScope s_has_slack, [], []⟩
def d_in_time : He.DefD := ⟨("in_time", none), "in_time", "in_time", defArgs s_in_time, defBody s_in_time, defScope s_in_time, [], []⟩
def d_l_pool : He.DefD := ⟨("_law_pool", none), "_law_pool", "_law_pool", defArgs s_l_pool, defBody s_l_pool, defScope s_l_pool, [], []⟩
def d_l_next : He.DefD := ⟨("_law_next", none), "_law_next", "_law_next", defArgs s_l_next, defBody s_l_next, defScope s_l_next, [], []⟩
def d_l_wide : He.DefD := ⟨("_law_wide", none), "_law_wide", "_law_wide", defArgs s_l_wide, defBody s_l_wide, defScope s_l_wide, [], []⟩
def d_l_moment : He.DefD := ⟨("_law_moment", none), "_law_moment", "_law_moment", defArgs s_l_moment, defBody s_l_moment, defScope s_l_moment, [], []⟩
def d_l_web : He.DefD := ⟨("_law_web", none), "_law_web", "_law_web", defArgs s_l_web, defBody s_l_web, defScope s_l_web, [], []⟩
def d_l_rest : He.DefD := ⟨("_law_rest", none), "_law_rest", "_law_rest", defArgs s_l_rest, defBody s_l_rest, defScope s_l_rest, [], []⟩
def d_l_till : He.DefD := ⟨("_law_till", none), "_law_till", "_law_till", defArgs s_l_till, defBody s_l_till, defScope s_l_till, [], []⟩
def d_l_folded : He.DefD := ⟨("_law_folded", none), "_law_folded", "_law_folded", defArgs s_l_folded, defBody s_l_folded, defScope s_l_folded, [], []⟩
def d_l_no_sooner : He.DefD := ⟨("_law_no_sooner", none), "_law_no_sooner", "_law_no_sooner", defArgs s_l_no_sooner, defBody s_l_no_sooner, defScope s_l_no_sooner, [], []⟩
def d_l_order : He.DefD := ⟨("_law_order", none), "_law_order", "_law_order", defArgs s_l_order, defBody s_l_order, defScope s_l_order, [], []⟩
def d_l_put_off : He.DefD := ⟨("_law_put_off", none), "_law_put_off", "_law_put_off", defArgs s_l_put_off, defBody s_l_put_off, defScope s_l_put_off, [], []⟩
def d_l_moved_right : He.DefD := ⟨("_law_moved_right", none), "_law_moved_right", "_law_moved_right", defArgs s_l_moved_right, defBody s_l_moved_right, defScope s_l_moved_right, [], []⟩
def d_l_changed_right : He.DefD := ⟨("_law_changed_right", none), "_law_changed_right", "_law_changed_right", defArgs s_l_changed_right, defBody s_l_changed_right, defScope s_l_changed_right, [], []⟩
def d_l_by_walks : He.DefD := ⟨("_law_by_walks", none), "_law_by_walks", "_law_by_walks", defArgs s_l_by_walks, defBody s_l_by_walks, defScope s_l_by_walks, [], []⟩
def d_l_walks_right : He.DefD := ⟨("_law_walks_right", none), "_law_walks_right", "_law_walks_right", defArgs s_l_walks_right, defBody s_l_walks_right, defScope s_l_walks_right, [], []⟩
def d_l_put_together : He.DefD := ⟨("_law_put_together", none), "_law_put_together", "_law_put_together", defArgs s_l_put_together, defBody s_l_put_together, defScope s_l_put_together, [], []⟩
def d_law : He.DefD := ⟨("law", none), "law", "law", defArgs s_law, defBody s_law, defScope s_law, [], []⟩
def fn : List He.DefD := [d_risen_meet, d_put_meet, d_less_meet, d_turned_web, d_later_web, d_kept_web, d_renamed_web, d_is_step, d_steps_of, d_goes_on, d_walk_right, d_walk_ends, d_put_walks, d_plain_walks, d_turned_walk, d_can_go, d_is_sooner, d_soonest_tree, d_soonest_from, d_walk_along, d_soonest_walk, d_turned_moment, d_turned_list, d_latest_to, d_latest_walk, d_has_slack, d_in_time, d_l_pool, d_l_next, d_l_wide, d_l_moment, d_l_web, d_l_rest, d_l_till, d_l_folded, d_l_no_sooner, d_l_order, d_l_put_off, d_l_moved_right, d_l_changed_right, d_l_by_walks, d_l_walks_right, d_l_put_together, d_law]
def fa : List He.Fa := [.free "len", .free "min", .free "max", .free "sorted", .free "tuple", .free "range", .free "zip", .free "all", .int "MOST_MEETS" 24, .int "MOST_WALKS" 100, .glo "TooMany", .exc "TooMany", .exm "TooMany" "TooMany" true, .glo "risen_meet", .glo "put_meet", .glo "less_meet", .glo "turned_web", .glo "later_web", .glo "kept_web", .glo "renamed_web", .glo "is_step", .glo "steps_of", .glo "goes_on", .glo "walk_right", .glo "walk_ends", .glo "put_walks", .glo "plain_walks", .glo "turned_walk", .glo "can_go", .glo "is_sooner", .glo "soonest_tree", .glo "soonest_from", .glo "walk_along", .glo "soonest_walk", .glo "turned_moment", .glo "turned_list", .glo "latest_to", .glo "latest_walk", .glo "has_slack", .glo "in_time", .glo "_law_pool", .glo "_law_next", .glo "_law_wide", .glo "_law_moment", .glo "_law_web", .glo "_law_rest", .glo "_law_till", .glo "_law_folded", .glo "_law_no_sooner", .glo "_law_order", .glo "_law_put_off", .glo "_law_moved_right", .glo "_law_changed_right", .glo "_law_by_walks", .glo "_law_walks_right", .glo "_law_put_together", .glo "law"]
abbrev R : PySem.W.OpenRow := PySem.W.OpenLaw.row PySem.Challenge.rw_whenmeet_k24_whole_latest_as_webs_change
abbrev hk : PySem.W.Hook := He.hookD 4 fa fn
def ob (s : PySem.W.SharedT) : He.AlD := He.obsDG 4 fa fn (HandSHeadRun.getT s)
theorem ob_eq (s : PySem.W.SharedT) : ob s = hk.obs s.abs := He.obsDG_eq (HandSHeadRun.getT_eq s)
def loose1 : List PySem.Str := ["MeetError", "TooMany", "NoMeet", "NoWalk", "MOST_MEETS", "risen_meet", "put_meet", "less_meet", "turned_web", "later_web", "kept_web", "renamed_web", "MOST_WALKS", "is_step", "steps_of", "goes_on", "walk_right", "walk_ends", "put_walks", "plain_walks", "turned_walk", "can_go", "is_sooner", "soonest_tree", "soonest_from", "walk_along", "soonest_walk", "turned_moment", "turned_list", "latest_to"]
def loose2 : List PySem.Str := ["latest_walk", "has_slack", "in_time", "_law_pool", "_law_next", "_law_wide", "_law_moment", "_law_web", "_law_rest", "_law_till", "_law_folded", "_law_no_sooner", "_law_order", "_law_put_off", "_law_moved_right", "_law_changed_right", "_law_by_walks", "_law_walks_right", "_law_put_together"]
def loose : List PySem.Str := loose1 ++ loose2
theorem run (w : World) : HandSHeadRun.RunEq R (PySem.W.view R.prog [55]) hk ob 4000 loose w := by
  intro os
  kernel_rfl
end Wm
end
section
set_option Elab.async false
set_option linter.all false
set_option maxRecDepth 100000
set_option maxHeartbeats 0
namespace Wm
open PySem PySem.Spec PyProof.Rows L2
theorem facts {P : Program} {w : World} {K : PySem.W.Frag} {h : Heap} {mg : Str → Option Value} {f : Addr} (X : K.In h) (G : h.Ns mainGlobals mg) (hfa : mg ("law" : Str) = some (.ref f)) (c : He.SaysD fa fn K) :
    ∃ fd : FuncData, (∀ (s : Shared) (v : Value), BindsTo s fd ⟨[v], []⟩ [("script", v)]) ∧ ∀ base : Heap, K.In base → base.Ns mainGlobals mg → FnOk P w K mg base CX0 14 f fd ["script"] (sp_law K) := by
  have T : Tp K mg := ⟨He.free_ok X G (c.fact 0 (f := .free "len") rfl), He.free_ok X G (c.fact 1 (f := .free "min") rfl), He.free_ok X G (c.fact 2 (f := .free "max") rfl), He.free_ok X G (c.fact 3 (f := .free "sorted") rfl), He.free_ok X G (c.fact 4 (f := .free "tuple") rfl), He.free_ok X G (c.fact 5 (f := .free "range") rfl), He.free_ok X G (c.fact 6 (f := .free "zip") rfl), He.free_ok X G (c.fact 7 (f := .free "all") rfl), He.int_ok X G (c.fact 8 (f := .int "MOST_MEETS" 24) rfl), He.int_ok X G (c.fact 9 (f := .int "MOST_WALKS" 100) rfl)⟩
  have R : Er K mg (He.ga K "TooMany") := by
    obtain ⟨e1, e2, e3, e4⟩ := He.exc_ok (c.fact 11 (f := .exc "TooMany") rfl)
    exact ⟨e1, He.glo_ok X G (c.fact 10 (f := .glo "TooMany") rfl), e2, e3, e4, He.exm_ok (c.fact 12 (f := .exm "TooMany" "TooMany" true) rfl)⟩
  obtain ⟨fd, F⟩ := c.def_ 43 (d := d_law) rfl
  have e := hfa.symm.trans (He.glo_ok X G (c.fact 56 (f := .glo "law") rfl))
  cases e
  have b := FunD.bindsA (ps := ["script"]) F fun _ _ _ _ _ _ us hl => match us, hl with | [_], _ => rfl
  refine ⟨fd, fun s v => b s [v] rfl, fun base _ _ => ?_⟩
  have h_risen_meet : Here K mg "risen_meet" s_risen_meet := by
    obtain ⟨fd, F⟩ := c.def_ 0 (d := d_risen_meet) rfl
    exact ⟨_, fd, He.glo_ok X G (c.fact 13 (f := .glo "risen_meet") rfl), F⟩
  have h_put_meet : Here K mg "put_meet" s_put_meet := by
    obtain ⟨fd, F⟩ := c.def_ 1 (d := d_put_meet) rfl
    exact ⟨_, fd, He.glo_ok X G (c.fact 14 (f := .glo "put_meet") rfl), F⟩
  have h_less_meet : Here K mg "less_meet" s_less_meet := by
    obtain ⟨fd, F⟩ := c.def_ 2 (d := d_less_meet) rfl
    exact ⟨_, fd, He.glo_ok X G (c.fact 15 (f := .glo "less_meet") rfl), F⟩
  have h_turned_web : Here K mg "turned_web" s_turned_web := by
    obtain ⟨fd, F⟩ := c.def_ 3 (d := d_turned_web) rfl
    exact ⟨_, fd, He.glo_ok X G (c.fact 16 (f := .glo "turned_web") rfl), F⟩
  have h_later_web : Here K mg "later_web" s_later_web := by
    obtain ⟨fd, F⟩ := c.def_ 4 (d := d_later_web) rfl
    exact ⟨_, fd, He.glo_ok X G (c.fact 17 (f := .glo "later_web") rfl), F⟩
  have h_kept_web : Here K mg "kept_web" s_kept_web := by
    obtain ⟨fd, F⟩ := c.def_ 5 (d := d_kept_web) rfl
    exact ⟨_, fd, He.glo_ok X G (c.fact 18 (f := .glo "kept_web") rfl), F⟩
  have h_renamed_web : Here K mg "renamed_web" s_renamed_web := by
    obtain ⟨fd, F⟩ := c.def_ 6 (d := d_renamed_web) rfl
    exact ⟨_, fd, He.glo_ok X G (c.fact 19 (f := .glo "renamed_web") rfl), F⟩
  have h_is_step : Here K mg "is_step" s_is_step := by
    obtain ⟨fd, F⟩ := c.def_ 7 (d := d_is_step) rfl
    exact ⟨_, fd, He.glo_ok X G (c.fact 20 (f := .glo "is_step") rfl), F⟩
  have h_steps_of : Here K mg "steps_of" s_steps_of := by
    obtain ⟨fd, F⟩ := c.def_ 8 (d := d_steps_of) rfl
    exact ⟨_, fd, He.glo_ok X G (c.fact 21 (f := .glo "steps_of") rfl), F⟩
  have h_goes_on : Here K mg "goes_on" s_goes_on := by
    obtain ⟨fd, F⟩ := c.def_ 9 (d := d_goes_on) rfl
    exact ⟨_, fd, He.glo_ok X G (c.fact 22 (f := .glo "goes_on") rfl), F⟩
  have h_walk_right : Here K mg "walk_right" s_walk_right := by
    obtain ⟨fd, F⟩ := c.def_ 10 (d := d_walk_right) rfl
    exact ⟨_, fd, He.glo_ok X G (c.fact 23 (f := .glo "walk_right") rfl), F⟩
  have h_walk_ends : Here K mg "walk_ends" s_walk_ends := by
    obtain ⟨fd, F⟩ := c.def_ 11 (d := d_walk_ends) rfl
    exact ⟨_, fd, He.glo_ok X G (c.fact 24 (f := .glo "walk_ends") rfl), F⟩
  have h_put_walks : Here K mg "put_walks" s_put_walks := by
    obtain ⟨fd, F⟩ := c.def_ 12 (d := d_put_walks) rfl
    exact ⟨_, fd, He.glo_ok X G (c.fact 25 (f := .glo "put_walks") rfl), F⟩
  have h_plain_walks : Here K mg "plain_walks" s_plain_walks := by
    obtain ⟨fd, F⟩ := c.def_ 13 (d := d_plain_walks) rfl
    exact ⟨_, fd, He.glo_ok X G (c.fact 26 (f := .glo "plain_walks") rfl), F⟩
  have h_turned_walk : Here K mg "turned_walk" s_turned_walk := by
    obtain ⟨fd, F⟩ := c.def_ 14 (d := d_turned_walk) rfl
    exact ⟨_, fd, He.glo_ok X G (c.fact 27 (f := .glo "turned_walk") rfl), F⟩
  have h_can_go : Here K mg "can_go" s_can_go := by
    obtain ⟨fd, F⟩ := c.def_ 15 (d := d_can_go) rfl
    exact ⟨_, fd, He.glo_ok X G (c.fact 28 (f := .glo "can_go") rfl), F⟩
  have h_is_sooner : Here K mg "is_sooner" s_is_sooner := by
    obtain ⟨fd, F⟩ := c.def_ 16 (d := d_is_sooner) rfl
    exact ⟨_, fd, He.glo_ok X G (c.fact 29 (f := .glo "is_sooner") rfl), F⟩
  have h_soonest_tree : Here K mg "soonest_tree" s_soonest_tree := by
    obtain ⟨fd, F⟩ := c.def_ 17 (d := d_soonest_tree) rfl
    exact ⟨_, fd, He.glo_ok X G (c.fact 30 (f := .glo "soonest_tree") rfl), F⟩
  have h_soonest_from : Here K mg "soonest_from" s_soonest_from := by
    obtain ⟨fd, F⟩ := c.def_ 18 (d := d_soonest_from) rfl
    exact ⟨_, fd, He.glo_ok X G (c.fact 31 (f := .glo "soonest_from") rfl), F⟩
  have h_walk_along : Here K mg "walk_along" s_walk_along := by
    obtain ⟨fd, F⟩ := c.def_ 19 (d := d_walk_along) rfl
    exact ⟨_, fd, He.glo_ok X G (c.fact 32 (f := .glo "walk_along") rfl), F⟩
  have h_soonest_walk : Here K mg "soonest_walk" s_soonest_walk := by
    obtain ⟨fd, F⟩ := c.def_ 20 (d := d_soonest_walk) rfl
    exact ⟨_, fd, He.glo_ok X G (c.fact 33 (f := .glo "soonest_walk") rfl), F⟩
  have h_turned_moment : Here K mg "turned_moment" s_turned_moment := by
    obtain ⟨fd, F⟩ := c.def_ 21 (d := d_turned_moment) rfl
    exact ⟨_, fd, He.glo_ok X G (c.fact 34 (f := .glo "turned_moment") rfl), F⟩
  have h_turned_list : Here K mg "turned_list" s_turned_list := by
    obtain ⟨fd, F⟩ := c.def_ 22 (d := d_turned_list) rfl
    exact ⟨_, fd, He.glo_ok X G (c.fact 35 (f := .glo "turned_list") rfl), F⟩
  have h_latest_to : Here K mg "latest_to" s_latest_to := by
    obtain ⟨fd, F⟩ := c.def_ 23 (d := d_latest_to) rfl
    exact ⟨_, fd, He.glo_ok X G (c.fact 36 (f := .glo "latest_to") rfl), F⟩
  have h_latest_walk : Here K mg "latest_walk" s_latest_walk := by
    obtain ⟨fd, F⟩ := c.def_ 24 (d := d_latest_walk) rfl
    exact ⟨_, fd, He.glo_ok X G (c.fact 37 (f := .glo "latest_walk") rfl), F⟩
  have h_has_slack : Here K mg "has_slack" s_has_slack := by
    obtain ⟨fd, F⟩ := c.def_ 25 (d := d_has_slack) rfl
    exact ⟨_, fd, He.glo_ok X G (c.fact 38 (f := .glo "has_slack") rfl), F⟩
  have h_in_time : Here K mg "in_time" s_in_time := by
    obtain ⟨fd, F⟩ := c.def_ 26 (d := d_in_time) rfl
    exact ⟨_, fd, He.glo_ok X G (c.fact 39 (f := .glo "in_time") rfl), F⟩
  have h_l_pool : Here K mg "_law_pool" s_l_pool := by
    obtain ⟨fd, F⟩ := c.def_ 27 (d := d_l_pool) rfl
    exact ⟨_, fd, He.glo_ok X G (c.fact 40 (f := .glo "_law_pool") rfl), F⟩
  have h_l_next : Here K mg "_law_next" s_l_next := by
    obtain ⟨fd, F⟩ := c.def_ 28 (d := d_l_next) rfl
    exact ⟨_, fd, He.glo_ok X G (c.fact 41 (f := .glo "_law_next") rfl), F⟩
  have h_l_wide : Here K mg "_law_wide" s_l_wide := by
    obtain ⟨fd, F⟩ := c.def_ 29 (d := d_l_wide) rfl
    exact ⟨_, fd, He.glo_ok X G (c.fact 42 (f := .glo "_law_wide") rfl), F⟩
  have h_l_moment : Here K mg "_law_moment" s_l_moment := by
    obtain ⟨fd, F⟩ := c.def_ 30 (d := d_l_moment) rfl
    exact ⟨_, fd, He.glo_ok X G (c.fact 43 (f := .glo "_law_moment") rfl), F⟩
  have h_l_web : Here K mg "_law_web" s_l_web := by
    obtain ⟨fd, F⟩ := c.def_ 31 (d := d_l_web) rfl
    exact ⟨_, fd, He.glo_ok X G (c.fact 44 (f := .glo "_law_web") rfl), F⟩
  have h_l_rest : Here K mg "_law_rest" s_l_rest := by
    obtain ⟨fd, F⟩ := c.def_ 32 (d := d_l_rest) rfl
    exact ⟨_, fd, He.glo_ok X G (c.fact 45 (f := .glo "_law_rest") rfl), F⟩
  have h_l_till : Here K mg "_law_till" s_l_till := by
    obtain ⟨fd, F⟩ := c.def_ 33 (d := d_l_till) rfl
    exact ⟨_, fd, He.glo_ok X G (c.fact 46 (f := .glo "_law_till") rfl), F⟩
  have h_l_folded : Here K mg "_law_folded" s_l_folded := by
    obtain ⟨fd, F⟩ := c.def_ 34 (d := d_l_folded) rfl
    exact ⟨_, fd, He.glo_ok X G (c.fact 47 (f := .glo "_law_folded") rfl), F⟩
  have h_l_no_sooner : Here K mg "_law_no_sooner" s_l_no_sooner := by
    obtain ⟨fd, F⟩ := c.def_ 35 (d := d_l_no_sooner) rfl
    exact ⟨_, fd, He.glo_ok X G (c.fact 48 (f := .glo "_law_no_sooner") rfl), F⟩
  have h_l_order : Here K mg "_law_order" s_l_order := by
    obtain ⟨fd, F⟩ := c.def_ 36 (d := d_l_order) rfl
    exact ⟨_, fd, He.glo_ok X G (c.fact 49 (f := .glo "_law_order") rfl), F⟩
  have h_l_put_off : Here K mg "_law_put_off" s_l_put_off := by
    obtain ⟨fd, F⟩ := c.def_ 37 (d := d_l_put_off) rfl
    exact ⟨_, fd, He.glo_ok X G (c.fact 50 (f := .glo "_law_put_off") rfl), F⟩
  have h_l_moved_right : Here K mg "_law_moved_right" s_l_moved_right := by
    obtain ⟨fd, F⟩ := c.def_ 38 (d := d_l_moved_right) rfl
    exact ⟨_, fd, He.glo_ok X G (c.fact 51 (f := .glo "_law_moved_right") rfl), F⟩
  have h_l_changed_right : Here K mg "_law_changed_right" s_l_changed_right := by
    obtain ⟨fd, F⟩ := c.def_ 39 (d := d_l_changed_right) rfl
    exact ⟨_, fd, He.glo_ok X G (c.fact 52 (f := .glo "_law_changed_right") rfl), F⟩
  have h_l_by_walks : Here K mg "_law_by_walks" s_l_by_walks := by
    obtain ⟨fd, F⟩ := c.def_ 40 (d := d_l_by_walks) rfl
    exact ⟨_, fd, He.glo_ok X G (c.fact 53 (f := .glo "_law_by_walks") rfl), F⟩
  have h_l_walks_right : Here K mg "_law_walks_right" s_l_walks_right := by
    obtain ⟨fd, F⟩ := c.def_ 41 (d := d_l_walks_right) rfl
    exact ⟨_, fd, He.glo_ok X G (c.fact 54 (f := .glo "_law_walks_right") rfl), F⟩
  have h_l_put_together : Here K mg "_law_put_together" s_l_put_together := by
    obtain ⟨fd, F⟩ := c.def_ 42 (d := d_l_put_together) rfl
    exact ⟨_, fd, He.glo_ok X G (c.fact 55 (f := .glo "_law_put_together") rfl), F⟩
  have F_l_folded := ok_l_folded (P := P) (w := w) (base := base) h_l_folded T 
  have F_l_pool := ok_l_pool (P := P) (w := w) (base := base) h_l_pool T 
  have F_l_next := ok_l_next (P := P) (w := w) (base := base) h_l_next T 
  have F_l_wide := ok_l_wide (P := P) (w := w) (base := base) h_l_wide T F_l_next
  have F_l_moment := ok_l_moment (P := P) (w := w) (base := base) h_l_moment T F_l_next F_l_wide
  have F_l_web := ok_l_web (P := P) (w := w) (base := base) h_l_web T F_l_next F_l_moment
  have F_l_rest := ok_l_rest (P := P) (w := w) (base := base) h_l_rest T F_l_next
  have F_turned_moment := ok_turned_moment (P := P) (w := w) (base := base) h_turned_moment T 
  have F_turned_list := ok_turned_list (P := P) (w := w) (base := base) h_turned_list T F_turned_moment
  have F_steps_of := ok_steps_of (P := P) (w := w) (base := base) h_steps_of T 
  have F_is_sooner := ok_is_sooner (P := P) (w := w) (base := base) h_is_sooner T 
  have F_can_go := ok_can_go (P := P) (w := w) (base := base) h_can_go T 
  have F_soonest_tree := ok_soonest_tree (P := P) (w := w) (base := base) h_soonest_tree T F_steps_of F_is_sooner F_can_go
  have F_soonest_from := ok_soonest_from (P := P) (w := w) (base := base) h_soonest_from T F_soonest_tree
  have F_turned_web := ok_turned_web (P := P) (w := w) (base := base) h_turned_web T 
  have F_latest_to := ok_latest_to (P := P) (w := w) (base := base) h_latest_to T F_turned_list F_soonest_from F_turned_web
  have F_l_till := ok_l_till (P := P) (w := w) (base := base) h_l_till T F_l_next F_l_wide
  have F_l_order := ok_l_order (P := P) (w := w) (base := base) h_l_order T F_l_next
  have F_l_put_off := ok_l_put_off (P := P) (w := w) (base := base) h_l_put_off T 
  have F_risen_meet := ok_risen_meet (P := P) (w := w) (base := base) h_risen_meet T 
  have F_renamed_web := ok_renamed_web (P := P) (w := w) (base := base) h_renamed_web T F_risen_meet
  have F_later_web := ok_later_web (P := P) (w := w) (base := base) h_later_web T 
  have F_kept_web := ok_kept_web (P := P) (w := w) (base := base) h_kept_web T 
  have F_l_moved_right := ok_l_moved_right (P := P) (w := w) (base := base) h_l_moved_right T F_l_order F_latest_to F_l_next F_l_put_off F_renamed_web F_later_web F_kept_web
  have F_l_no_sooner := ok_l_no_sooner (P := P) (w := w) (base := base) h_l_no_sooner T 
  have F_less_meet := ok_less_meet (P := P) (w := w) (base := base) h_less_meet T 
  have F_put_meet := ok_put_meet (P := P) (w := w) (base := base) h_put_meet T 
  have F_l_changed_right := ok_l_changed_right (P := P) (w := w) (base := base) h_l_changed_right T F_l_no_sooner F_l_next F_less_meet F_latest_to F_l_wide F_put_meet
  have F_goes_on := ok_goes_on (P := P) (w := w) (base := base) h_goes_on T 
  have F_put_walks := ok_put_walks (P := P) (w := w) (base := base) h_put_walks T R F_goes_on 9
  have F_plain_walks := ok_plain_walks (P := P) (w := w) (base := base) h_plain_walks T F_put_walks F_steps_of
  have F_walk_ends := ok_walk_ends (P := P) (w := w) (base := base) h_walk_ends T 
  have F_l_by_walks := ok_l_by_walks (P := P) (w := w) (base := base) h_l_by_walks T R F_plain_walks F_walk_ends
  have F_l_walks_right := ok_l_walks_right (P := P) (w := w) (base := base) h_l_walks_right T F_l_next F_l_by_walks
  have F_has_slack := ok_has_slack (P := P) (w := w) (base := base) h_has_slack T 
  have F_in_time := ok_in_time (P := P) (w := w) (base := base) h_in_time T F_soonest_from F_latest_to F_has_slack
  have F_walk_along := ok_walk_along (P := P) (w := w) (base := base) h_walk_along T 
  have F_soonest_walk := ok_soonest_walk (P := P) (w := w) (base := base) h_soonest_walk T F_soonest_tree F_walk_along
  have F_turned_walk := ok_turned_walk (P := P) (w := w) (base := base) h_turned_walk T 
  have F_latest_walk := ok_latest_walk (P := P) (w := w) (base := base) h_latest_walk T F_turned_walk F_soonest_walk F_turned_web
  have F_is_step := ok_is_step (P := P) (w := w) (base := base) h_is_step T F_risen_meet
  have F_walk_right := ok_walk_right (P := P) (w := w) (base := base) h_walk_right T F_goes_on F_is_step
  have F_l_put_together := ok_l_put_together (P := P) (w := w) (base := base) h_l_put_together T F_in_time F_soonest_walk F_latest_walk F_walk_right F_walk_ends
  exact ok_law F T F_l_folded F_l_pool F_l_web F_l_rest F_l_next F_latest_to F_l_till F_l_moved_right F_l_changed_right F_l_walks_right F_l_put_together
end Wm
end
set_option Elab.async false
set_option linter.all false
set_option maxRecDepth 100000
set_option maxHeartbeats 0
open PySem PySem.W PySem.Calls PyProof.Rows
theorem PySem.Challenge.cw_whenmeet_k24_whole_latest_as_webs_change_holds : PySem.Challenge.rw_whenmeet_k24_whole_latest_as_webs_change.Holds := by
  w_on; o_law
  refine HandSHeadRun.head_any (r := OpenLaw.row PySem.Challenge.rw_whenmeet_k24_whole_latest_as_webs_change) (q := view (OpenLaw.row PySem.Challenge.rw_whenmeet_k24_whole_latest_as_webs_change).prog [55]) (H := Wm.hk) (ob := Wm.ob) (M := 4000) (loose := Wm.loose) (d := HandSHeadRun.topDef (OpenLaw.row PySem.Challenge.rw_whenmeet_k24_whole_latest_as_webs_change).prog 55) (kwd := []) Wm.ob_eq
    (by kernel_rfl) (fun s => by kernel_rfl) Wm.run (by kernel_rfl) (by kernel_rfl) (by kernel_rfl) (by rfl) (by first | assumption | decide +kernel) (by decide +kernel) ⟨rfl, rfl, rfl, rfl, rfl, by decide +kernel⟩ ?hw ?hc
  case hw => w_witness2
  case hc =>
    refine L2.walk_ofE (l := PySem.Challenge.rw_whenmeet_k24_whole_latest_as_webs_change) (n := 63) (k := 14) (x := "script") (CX := L2.CX0) rfl (by decide) (by kernel_rfl) ⟨rfl, by decide, by decide⟩ ?F (fun _ _ _ _ z => z)
    intro w mg fa h Y G hmg0
    obtain ⟨K, KX, c⟩ := Y
    have hmg : mg ("law" : PySem.Str) = some (.ref fa) := by
      have e : (HandSHeadRun.topDef (OpenLaw.row PySem.Challenge.rw_whenmeet_k24_whole_latest_as_webs_change).prog 55).name = ("law" : PySem.Str) := by kernel_rfl
      rw [← e]
      exact hmg0
    obtain ⟨fd, hb, hF⟩ := Wm.facts (P := (PySem.Challenge.rw_whenmeet_k24_whole_latest_as_webs_change).prog) (w := w) KX G hmg c
    exact ⟨K, fd, Wm.sp_law K, KX, hb, fun H a ns hl _ hS => ⟨a, ns, rfl, hS, hl, fun _ => rfl⟩, hF⟩
