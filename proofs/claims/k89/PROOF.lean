import PyProof.Rows.All
import Wide.All
import OpenK.AllK
import Wide.FinOn
import PySem.Challenge.RW_lessandless_k89_whole_plain_sayings_and
import HandS.ForMost
import HandS.SortInts
import HandS.SetFor
import HandS.Strs
import HandS.Zip
import HandS.Style
import HandS.Conv
import HandS.TupAny
import KE.GoesMore
import PyProof.Draws
import HandS.Wide
import HandS.Exc
import HandS.Lambda
import HandS.RaiseMore
import KE.DataEq
import KE.DataIsa
import HandS.IsInst
import PyProof.MaxThree
import HandS.Text
import PyProof.ReprLen
set_option Elab.async false
set_option linter.all false
set_option maxRecDepth 100000
set_option maxHeartbeats 4000000
/-! Mj1: further rules of values: sorted and set of tuples of ints, t[::-1]. -/
namespace Mi
open PySem PySem.Spec PyProof.Rows L2

/-! ### plain lists -/
def ins (x : Int) : List Int → List Int
  | [] => [x]
  | y :: r => if x ≤ y then x :: y :: r else y :: ins x r
def isort : List Int → List Int
  | [] => []
  | x :: r => ins x (isort r)
def nub : List Int → List Int
  | [] => []
  | x :: r => if r.contains x then nub r else x :: nub r
theorem ins_perm (x : Int) : ∀ l : List Int, (ins x l).Perm (x :: l)
  | [] => .refl _
  | y :: r => by
    unfold ins
    split
    · exact .refl _
    · exact ((ins_perm x r).cons y).trans (.swap x y r)
theorem isort_perm : ∀ l : List Int, (isort l).Perm l
  | [] => .refl _
  | x :: r => (ins_perm x _).trans ((isort_perm r).cons x)
theorem ins_sorted {x : Int} : ∀ {l : List Int}, l.Pairwise (· ≤ ·) → (ins x l).Pairwise (· ≤ ·)
  | [], _ => by simp [ins]
  | y :: r, h => by
    unfold ins
    rw [List.pairwise_cons] at h
    split
    · rename_i hx
      refine List.pairwise_cons.mpr ⟨fun z hz => ?_, List.pairwise_cons.mpr h⟩
      rcases List.mem_cons.mp hz with e | e
      · rw [e]
        exact hx
      · have := h.1 z e
        omega
    · rename_i hx
      refine List.pairwise_cons.mpr ⟨fun z hz => ?_, ins_sorted h.2⟩
      rcases List.mem_cons.mp ((ins_perm x r).mem_iff.mp hz) with e | e
      · omega
      · exact h.1 z e
theorem isort_sorted : ∀ l : List Int, (isort l).Pairwise (· ≤ ·)
  | [] => .nil
  | _ :: r => ins_sorted (isort_sorted r)
theorem sorted_uniq : ∀ {l k : List Int}, l.Perm k → l.Pairwise (· ≤ ·) → k.Pairwise (· ≤ ·) → l = k
  | [], k, p, _, _ => (List.Perm.nil_eq p)
  | x :: l, k, p, h1, h2 => by
    cases k with
    | nil => exact absurd p.length_eq (by simp)
    | cons y k =>
      rw [List.pairwise_cons] at h1 h2
      have e : x = y := by
        have a : x ∈ y :: k := p.mem_iff.mp List.mem_cons_self
        have b : y ∈ x :: l := p.mem_iff.mpr List.mem_cons_self
        rcases List.mem_cons.mp a with a | a
        · exact a
        · rcases List.mem_cons.mp b with b | b
          · exact b.symm
          · have := h1.1 y b
            have := h2.1 x a
            omega
      subst e
      rw [sorted_uniq ((List.perm_cons x).mp p) h1.2 h2.2]
theorem sort_is {l k : List Int} (p : l.Perm k) (h : l.Pairwise (· ≤ ·)) : l = isort k := sorted_uniq (p.trans (isort_perm k).symm) h (isort_sorted k)
theorem nub_mem (x : Int) : ∀ l : List Int, x ∈ nub l ↔ x ∈ l
  | [] => by simp [nub]
  | y :: r => by
    unfold nub
    split
    · rename_i h
      rw [nub_mem x r, List.mem_cons]
      refine ⟨.inr, fun z => z.elim (fun z => ?_) id⟩
      rw [z]
      simpa using h
    · rw [List.mem_cons, List.mem_cons, nub_mem x r]
theorem nub_nodup : ∀ l : List Int, (nub l).Nodup
  | [] => by simp [nub]
  | y :: r => by
    unfold nub
    split
    · exact nub_nodup r
    · rename_i h
      refine List.nodup_cons.mpr ⟨fun z => h ?_, nub_nodup r⟩
      simpa using (nub_mem y r).mp z
theorem perm_of_mem : ∀ {l k : List Int}, l.Nodup → k.Nodup → (∀ x, x ∈ l ↔ x ∈ k) → l.Perm k := fun {l k} h1 h2 h => (List.perm_ext_iff_of_nodup h1 h2).mpr h
theorem nub_len (l : List Int) : (nub l).length ≤ l.length := by
  induction l with
  | nil => exact Nat.le_refl _
  | cons y r ih =>
    unfold nub
    split
    · exact Nat.le_succ_of_le ih
    · exact Nat.succ_le_succ ih
/-- the sorted list of the unlike ones -/
def sset (l : List Int) : List Int := isort (nub l)
def maxL : List Int → Option Int
  | [] => none
  | x :: r => some (r.foldl (fun m y => if y > m then y else m) x)
def minL : List Int → Option Int
  | [] => none
  | x :: r => some (r.foldl (fun m y => if y < m then y else m) x)
theorem foldMax : ∀ (r : List Int) (x : Int), (r.foldl (fun m y => if y > m then y else m) x) ∈ x :: r ∧ ∀ y ∈ x :: r, y ≤ r.foldl (fun m y => if y > m then y else m) x
  | [], x => by simp
  | z :: r, x => by
    obtain ⟨h1, h2⟩ := foldMax r (if z > x then z else x)
    rw [List.foldl_cons]
    refine ⟨?_, fun y hy => ?_⟩
    · rcases List.mem_cons.mp h1 with e | e
      · rw [e]
        split <;> simp
      · exact List.mem_cons_of_mem _ (List.mem_cons_of_mem _ e)
    · have h3 := h2 _ List.mem_cons_self
      rcases List.mem_cons.mp hy with e | e
      · subst e
        split at h3 <;> (split <;> omega)
      · rcases List.mem_cons.mp e with e | e
        · subst e
          split at h3 <;> (split <;> omega)
        · exact h2 y (List.mem_cons_of_mem _ e)
theorem foldMin : ∀ (r : List Int) (x : Int), (r.foldl (fun m y => if y < m then y else m) x) ∈ x :: r ∧ ∀ y ∈ x :: r, r.foldl (fun m y => if y < m then y else m) x ≤ y
  | [], x => by simp
  | z :: r, x => by
    obtain ⟨h1, h2⟩ := foldMin r (if z < x then z else x)
    rw [List.foldl_cons]
    refine ⟨?_, fun y hy => ?_⟩
    · rcases List.mem_cons.mp h1 with e | e
      · rw [e]
        split <;> simp
      · exact List.mem_cons_of_mem _ (List.mem_cons_of_mem _ e)
    · have h3 := h2 _ List.mem_cons_self
      rcases List.mem_cons.mp hy with e | e
      · subst e
        split at h3 <;> (split <;> omega)
      · rcases List.mem_cons.mp e with e | e
        · subst e
          split at h3 <;> (split <;> omega)
        · exact h2 y (List.mem_cons_of_mem _ e)

/-! ### sorted(tuple of ints) -/
section
variable {prog : Program} {w : World} {A : Around} {E : Value → Shared → Prop} {s : Shared}
theorem collect_tup {l : Addr} {vs : List Value} {Q : List Value → Shared → Prop} (hl : s.heap.IsTuple l vs.toArray)
    (h : Q vs { s with heap := (s.heap.push (seqObj "list" #[] 0)).update s.heap.objs.size (Obj.mapSeq (· ++ vs.toArray)) }) (hsz : vs.length ≤ sizeLine) :
    wpAny (model prog w) A (collect (.ref l)) Q E s := by
  obtain ⟨o, ho, hc, n, hd⟩ := id hl
  unfold collect
  refine wpAny_bind (wpAny_runValue (codeAny_builtin entry_proto_collect' ?_))
  show wpAny _ _ (do again (.builtin "list.__iadd__" ⟨[← newList [], .ref l], []⟩)) _ _ s
  refine wpAny_bind (wpAny_newList (wpAny_pure ⟨Code.quiet_builtin _ (by decide +kernel), codeAny_builtin entry_list_iadd' ?_⟩))
  show wpAny _ _ (Builtin.List.listExtendWith (.ref s.heap.objs.size) (.ref l) (.ref s.heap.objs.size)) _ _ { s with heap := s.heap.push (seqObj "list" #[] 0) }
  unfold Builtin.List.listExtendWith
  have ho' : (s.heap.push (seqObj "list" #[] 0)).get? l = some o := Heap.get?_push_of_some _ ho
  refine wpAny_bind (wpAny_typeOf (T := "tuple") ⟨o, ho', hc⟩ ?_)
  have ht : (Value.type "tuple" == Value.type "tuple") = true := by rfl
  rw [if_pos (by rw [ht]; simp)]
  refine wpAny_bind (listItems_at ho' hd ?_)
  refine wpAny_bind (listItems_at (xs := #[]) (n := 0) (Heap.get?_push_size _ rfl) rfl ?_)
  rw [if_neg (by simp)]
  refine wpAny_bind (listUpdate_at (xs := #[]) (n := 0) (Heap.get?_push_size _ rfl) rfl ?_ (Nat.zero_le _) (by show (#[] ++ vs.toArray).size ≤ sizeLine + 1; simp only [Array.size_append, List.size_toArray, List.length_nil]; omega))
  refine wpAny_pure ?_
  show wpAny (model prog w) A (do
      let o ← load s.heap.objs.size
      match o.data with
      | .seq xs _ => pure xs.toList
      | _ => unsupported "internal:collect") Q E { s with heap := (s.heap.push (seqObj "list" #[] 0)).update s.heap.objs.size (Obj.mapSeq (· ++ vs.toArray)) }
  refine wpAny_bind (wpAny_load (get?_update_seq (Heap.get?_push_size _ rfl) _) ?_)
  show wpAny _ _ (pure ((#[] : Array Value) ++ vs.toArray).toList) Q E _
  rw [show ((#[] : Array Value) ++ vs.toArray).toList = vs by simp]
  exact wpAny_pure h
open SrtO in
theorem sorted_ordT {l : Addr} {vs : List Value} {ltv : Value → Value → Bool} {Q : Value → Shared → Prop} (O : Swo ltv) (hl : s.heap.IsTuple l vs.toArray) (hz : vs.length ≤ sizeLine)
    (hS : 2 ≤ vs.length → ∀ (h₁ : Heap) (a : Addr), h₁.get? a = some (seqObj "list" vs.toArray 0) → (∀ b o, s.heap.get? b = some o → b ≠ a ∧ h₁.get? b = some o) → SortableO prog w A.in1.in1 { s with heap := h₁ } a vs ltv)
    (h : ∀ out : List Value, Srtd ltv out → Stb ltv out vs → Q (.ref (s.heap.objs.size + 1)) { s with heap := sortedAll s.heap vs out.toArray }) :
    wpAny (model prog w) A (call (.builtin "sorted") [.ref l]) Q E s := by
  refine Calls.call_function_entry kind_sorted plain_sorted entry_sorted (args_sorted1 _) ?_
  unfold Builtin.«sorted»
  refine wpAny_bind (m := checkCount "sorted" 1 1 _) (wpAny_pure ?_)
  refine wpAny_bind (collect_tup hl ?_ hz)
  refine wpAny_bind (wpAny_newList ?_ hz)
  have hsz : ((s.heap.push (seqObj "list" #[] 0)).update s.heap.objs.size (Obj.mapSeq (· ++ vs.toArray))).objs.size = s.heap.objs.size + 1 := by
    rw [Heap.size_update, size_push']
  have hoL : (((s.heap.push (seqObj "list" #[] 0)).update s.heap.objs.size (Obj.mapSeq (· ++ vs.toArray))).push (seqObj "list" vs.toArray 0)).get? (s.heap.objs.size + 1) = some (seqObj "list" vs.toArray 0) := by
    rw [← hsz]; exact Heap.get?_push_size _ rfl
  have keep : ∀ b o, s.heap.get? b = some o → b ≠ s.heap.objs.size + 1 ∧ (((s.heap.push (seqObj "list" #[] 0)).update s.heap.objs.size (Obj.mapSeq (· ++ vs.toArray))).push (seqObj "list" vs.toArray 0)).get? b = some o := fun b o q => by
    have hlt : b < s.heap.objs.size := Heap.lt_size q
    refine ⟨Nat.ne_of_lt (Nat.lt_succ_of_lt hlt), Heap.get?_push_of_some _ ?_⟩
    rw [Heap.get?_update_ne _ _ _ _ (Nat.ne_of_lt hlt)]
    exact Heap.get?_push_of_some _ q
  show wpAny _ _ _ _ _ { s with heap := ((s.heap.push (seqObj "list" #[] 0)).update s.heap.objs.size (Obj.mapSeq (· ++ vs.toArray))).push (seqObj "list" vs.toArray 0) }
  rw [hsz]
  refine wpAny_bind (wpAny_holding (wpAny_call_entry slot_list_sort ⟨_, hoL, rfl⟩ entry_list_sort (list_sort_ord O hoL hz (fun h2 => hS h2 _ _ hoL keep) fun out hs hb => ⟨_, rfl, ?_⟩) (args_list_sort _)))
  exact wpAny_pure ⟨_, rfl, h out hs hb⟩
end
section
variable {X : Cx}
def rSortedIT (K : PySem.W.Frag) : List V → Hp → VK → Prop := fun vs H Q => ∃ (a : Addr) (ns : List Int), vs = [V.ref a] ∧ SqT K H a (ns.map V.int) ∧
  ∀ (ns' : List Int) (p : Addr), ns'.Perm ns → ns'.Pairwise (· ≤ ·) → H p = none → Q (.ref p) (upd H p (.lst (ns'.map V.int)))
theorem cr_sortedIT : CallR X (.builtin "sorted") (rSortedIT X.K) := by
  intro pins s σ H vs us Q I r h
  obtain ⟨a, ns, rfl, hs, q⟩ := h
  obtain ⟨its, rv, hl, hz⟩ := I.tuple hs
  rw [Vals.ref1 r]
  have hi := rv.ints
  refine sorted_ordT SrtO.swo_int (show s.heap.IsTuple a its.toArray from hl) (by rw [← rv.length]; exact hz) (fun h2 h₁ a' _ _ => SrtO.ints_sortable hi h2) fun out h1 h2 => ?_
  obtain ⟨k1, k2, k3⟩ := SrtO.ints_out hi h1 h2
  obtain ⟨ep, he'⟩ := PyProof.Rows.sortedAll_at s.heap its out.toArray
  have hlen : ((out.map SrtO.iv).map V.int).length ≤ sizeLine := by
    rw [List.length_map, k2.length_eq]
    rw [List.length_map] at hz
    exact hz
  exact ⟨.ref _, upd H (s.heap.objs.size + 1) (.lst ((out.map SrtO.iv).map V.int)), I.laid (t' := s.toks) (fun _ _ => PyProof.Rows.sortedAll_old) (Nat.le_succ _) ⟨hlen, out, ep, vals_of_ints k1, he'⟩, rfl, q _ _ k2 k3 (I.hok.fresh (Nat.le_succ _))⟩

/-! ### set(tuple of ints) -/
def rSetT (K : PySem.W.Frag) (w : World) : List V → Hp → VK → Prop := fun vs H Q => ∃ (a : Addr) (ns : List Int), vs = [V.ref a] ∧ SqT K H a (ns.map V.int) ∧ ns.length ≤ 1000 ∧
  ∀ p : Addr, H p = none → Q (.ref p) (upd H p (SetO w p (fun k => decide (k ∈ ns)) (nub ns).length))
theorem cr_setT (hc : X.calm = true) : CallR X (.type "set") (rSetT X.K X.w) := by
  intro pins s σ H vs us Q I r h
  obtain ⟨a, ns, rfl, hs, hl, q⟩ := h
  obtain ⟨its, rv, pt, hz⟩ := I.tuple hs
  rw [Vals.ref1 r]
  have hi : IntsAre its.toArray.toList ns := ints_of_vals rv
  refine call_set_tupI ns (I.ok.hd hc) (show s.heap.IsTuple a its.toArray from pt) hi (by unfold scanBound; omega) fun h' tk c R hcn k => ?_
  have ec : c = (nub ns).length := by
    obtain ⟨o, es, ep, t, ho, hex, hdt, g, nd, hm2, hb, hf, hn, hr⟩ := R
    rw [← hn]
    have p := perm_of_mem nd (nub_nodup ns) fun x => by
      rw [nub_mem, ← hm2 x, decide_eq_true_eq]
    have := p.length_eq
    rw [List.length_map, Array.length_toList] at this
    exact this
  subst ec
  exact ⟨.ref s.heap.objs.size, _, I.laid (t' := tk) k (Nat.le_refl _) (setO_new R), rfl, q _ (I.hok.fresh (Nat.le_refl _))⟩
theorem cr_lenSet : CallR X (.builtin "len") (fun vs H Q => ∃ (a : Addr) (S : Int → Bool) (n : Nat), vs = [V.ref a] ∧ H a = some (SetO X.w a S n) ∧ Q (.int n) H) := by
  intro pins s σ H vs us Q I r h
  obtain ⟨a, S, n, rfl, ha, q⟩ := h
  have R := setO_get I ha
  rw [Vals.ref1 r]
  obtain ⟨o, es, ep, t, ho, hex, hdt, g, nd, hm2, hb, hf, hn, hr⟩ := R
  have hb' : es.size < scanBound := hb
  refine call_len_set ho hex hdt hf (by unfold scanBound at hb'; omega) ⟨.int n, H, I.tok _, ⟨_, by rw [hn]⟩, q⟩
end

/-! ### t[::-1] -/
section
variable {prog : Program} {w : World} {A : Around} {E : Value → Shared → Prop} {s : Shared} {items : Array Value}
theorem places_rev (n : Nat) : Builtin.Slice.slicePlaces ((n : Int) - 1) (-1) (-1) = n := by
  unfold Builtin.Slice.slicePlaces
  have h1 : ¬ ((-1 : Int) > 0) := by omega
  simp only [h1, if_false, Int.neg_neg, Int.ediv_one]
  split <;> omega
theorem adjust_rev (n : Nat) : Builtin.Slice.sliceAdjust none none (-1) (n : Int) = ((n : Int) - 1, -1) := by
  unfold Builtin.Slice.sliceAdjust
  have h1 : ((-1 : Int) < 0) := by omega
  simp only [h1, if_true]
theorem sliceApplied_rev {sl : Addr} {t : Tok} {n : Nat} {Q : Int × Int × Nat → Shared → Prop} (hs : s.heap.IsSliceOf sl .none .none (.int (-1) t))
    (h : Q ((n : Int) - 1, -1, n) s) : wpAny (model prog w) A (Builtin.Slice.sliceApplied (.ref sl) (pure (n : Int))) Q E s := by
  obtain ⟨os, hos, hcs, hds⟩ := id hs
  unfold Builtin.Slice.sliceApplied Builtin.Slice.sliceFields
  refine wpAny_bind (wpAny_bind (wpAny_field hos hds (x := .none) rfl (wpAny_bind (wpAny_field hos hds (x := .none) rfl (wpAny_bind (wpAny_field hos hds (x := .int (-1) t) rfl (wpAny_pure ?_)))))))
  refine wpAny_bind (slicePart_int ?_)
  show wpAny _ _ (if ((-1 : Int) == 0) = true then _ else _) _ _ s
  rw [if_neg (by decide)]
  refine wpAny_bind (HT.slicePart_ .none (wpAny_bind (HT.slicePart_ .none (wpAny_bind (wpAny_pure ?_)))))
  show wpAny _ _ (match Builtin.Slice.sliceAdjust none none (-1) (n : Int) with | (lo, hi) => pure (lo, (-1 : Int), Builtin.Slice.slicePlaces lo hi (-1))) _ _ s
  rw [adjust_rev n]
  show wpAny _ _ (pure ((n : Int) - 1, (-1 : Int), Builtin.Slice.slicePlaces ((n : Int) - 1) (-1) (-1))) _ _ s
  rw [places_rev]
  exact wpAny_pure h
theorem filterMap_same {α β : Type} {f g : α → Option β} : ∀ {l : List α}, (∀ a ∈ l, f a = g a) → l.filterMap f = l.filterMap g
  | [], _ => rfl
  | a :: r, h => by
    rw [List.filterMap_cons, List.filterMap_cons, h a List.mem_cons_self, filterMap_same fun b hb => h b (List.mem_cons_of_mem _ hb)]
theorem pick_rev (xs : Array Value) : ((List.range xs.size).filterMap fun (m : Nat) => xs[(((xs.size : Int) - 1) + (m : Int) * (-1)).toNat]?).toArray = xs.toList.reverse.toArray := by
  congr 1
  have e : (List.range xs.size).filterMap (fun (m : Nat) => xs[(((xs.size : Int) - 1) + (m : Int) * (-1)).toNat]?) = (List.range xs.size).filterMap (fun m => xs.toList.reverse[m]?) := by
    refine filterMap_same fun m hm => ?_
    have hm := List.mem_range.mp hm
    rw [List.getElem?_reverse (by rw [Array.length_toList]; exact hm), Array.length_toList, Array.getElem?_toList]
    congr 1
    omega
  rw [e]
  have h2 : ∀ l : List Value, (List.range l.length).filterMap (fun m => l[m]?) = l := by
    intro l
    induction l with
    | nil => rfl
    | cons a r ih =>
      rw [List.length_cons, List.range_succ_eq_map, List.filterMap_cons, List.filterMap_map]
      simp only [List.getElem?_cons_zero]
      congr 1
  have := h2 xs.toList.reverse
  rw [List.length_reverse, Array.length_toList] at this
  exact this
theorem getItem_tuple_rev {t sl : Addr} {tk : Tok} {Q : Value → Shared → Prop} (ht : IsTup s.heap t items) (hs : s.heap.IsSliceOf sl .none .none (.int (-1) tk))
    (h : Q (.ref s.heap.objs.size) { s with heap := s.heap.push { cls := .type "tuple", data := .seq items.toList.reverse.toArray } })
    (hsz : items.size ≤ sizeLine) : wpAny (model prog w) A (getItem (.ref t) (.ref sl)) Q E s := by
  have htake : sizeOk (.seq items.toList.reverse.toArray) := by
    show items.toList.reverse.toArray.size ≤ sizeLine
    rw [List.size_toArray, List.length_reverse, Array.length_toList]
    exact hsz
  obtain ⟨os, hos, hcs, hds⟩ := id hs
  have hTs : s.TypeIs (.ref sl) "slice" := ⟨os, hos, hcs⟩
  unfold getItem
  try with_reducible refine wpAny_holding ?_
  first | refine wpAny_bind (wpAny_pure ?_) | skip
  refine wpAny_bind (wpAny_sequenceKey ht.typeIs (by decide) ?_)
  refine wpAny_bind (wpAny_callSpecial?_slot (name := Str.ofString "__getitem__") ht.typeIs PyProof.Rows.slot_tuple_getitem
    (wpAny_call_entry PyProof.Rows.slot_tuple_getitem ht.typeIs entry_tuple_getitem ?_ (args_tuple_getitem _ _)))
  show wpAny _ _ (Builtin.Tuple.tupleItemsOf (.ref t) >>= _) _ _ s
  refine wpAny_bind (tupleItemsOf_ ht ?_)
  refine wpAny_bind (wpAny_typeOf hTs ?_)
  rw [if_pos (by decide)]
  refine wpAny_bind (sliceApplied_rev hs ?_)
  have hno : ¬ (((((items.size : Nat) : Int) - 1) == 0 && (-1 : Int) == 1 && items.size == items.size) = true) := by
    intro q
    rw [Bool.and_eq_true, Bool.and_eq_true] at q
    exact absurd q.1.2 (by decide)
  show wpAny _ _ (if ((((items.size : Nat) : Int) - 1) == 0 && (-1 : Int) == 1 && items.size == items.size) = true then _ else _) _ _ s
  rw [if_neg hno, pick_rev]
  first
    | exact wpAny_bind (m := Builtin.Tuple.tupleExact _) (wpAny_newObj_type (wpAny_pure ⟨_, rfl, wpAny_pure h⟩) htake)
    | exact wpAny_bind (m := Builtin.Tuple.tupleExact _) (wpAny_newObj_type (wpAny_bind (wpAny_pure (wpAny_pure ⟨_, rfl, wpAny_pure h⟩))) htake)
    | exact wpAny_bind (wpAny_bind (m := Builtin.Tuple.tupleExact _) (wpAny_newObj_type (wpAny_pure (wpAny_pure ⟨_, rfl, wpAny_pure h⟩)) htake))
    | exact wpAny_bind (wpAny_bind (m := Builtin.Tuple.tupleExact _) (wpAny_newObj_type (wpAny_pure ⟨_, rfl, wpAny_pure h⟩) htake))
end
section
variable {X : Cx}
/-- xs[::-1] of a list, of a tuple -/
def tRevA (K : PySem.W.Frag) (te : TE) : TE := fun σ H Q => te σ H fun x H1 => ∃ a xs, x = .ref a ∧ ((SqL K H1 a xs ∧ ∀ p, H1 p = none → Q (.ref p) (upd H1 p (.lst xs.reverse))) ∨ (SqT K H1 a xs ∧ ∀ p, H1 p = none → Q (.ref p) (upd H1 p (.tup xs.reverse))))
theorem pe_revA {e : Expr} {te : TE} {k : Nat} {p1 p2 p3 pos : Pos} (he : PE X e te) : PE X (.Subscript e (.Slice none none (some (.UnaryOp .USub (.Constant (.int 1) k p1) p2)) p3) pos) (tRevA X.K te) := by
  refine ⟨fun pins s σ H Q I h => ?_⟩
  refine Subscript_ (thn (he.run pins s σ H _ I h) fun v s1 ⟨x, H1, I1, r1, q1⟩ => ?_)
  obtain ⟨a, xs, ex, q⟩ := q1
  subst ex
  cases r1
  have hst : PO X (some (.UnaryOp .USub (.Constant (.int 1) k p1) p2)) (tPart (tUn (rU fun i => .int (-i)) (tC (.int 1)))) := po_some (pe_un un_neg pe_int)
  refine wpAny_Slice (thn (po_none.run pins s1 σ H1 (fun o H2 => o = none ∧ H2 = H1) I1 ⟨rfl, rfl⟩) fun vl s2 ⟨l, H2, I2, pl, el, e2⟩ => ?_)
  subst el e2
  refine thn (po_none.run pins s2 σ H2 (fun o H3 => o = none ∧ H3 = H2) I2 ⟨rfl, rfl⟩) fun vu s3 ⟨u, H3, I3, pu, eu, e3⟩ => ?_
  subst eu e3
  refine thn (hst.run pins s3 σ H3 (fun o H4 => o = some (-1) ∧ H4 = H3) I3 ⟨1, rfl, -1, rfl, rfl, rfl⟩) fun vs s4 ⟨o, H4, I4, ps, eo, e4⟩ => ?_
  subst eo e4
  have I5 : Inv X pins σ H4 { s4 with heap := s4.heap.push { cls := .type "slice", data := .fields #[vl, vu, vs] } } := I4.kept (t' := s4.toks) fun b ob q => Heap.get?_push_of_some _ q
  rcases q with ⟨hx, q⟩ | ⟨hx, q⟩
  · obtain ⟨its, r, ht, hz⟩ := I5.list hx
    have hlen := r.length
    show wpAny (model X.prog X.w) X.A (subscriptTail e (.Slice none none (some (.UnaryOp .USub (.Constant (.int 1) k p1) p2)) p3) (.ref a) (.ref s4.heap.objs.size)) (EP X pins σ Q) X.xe { s4 with heap := s4.heap.push { cls := .type "slice", data := .fields #[vl, vu, vs] } }
    refine tail_any (ops := [.ref a, .ref s4.heap.objs.size]) ht.isList.typeIs (PySem.slot_list_getitem.lookup) ?_ (by with_unfolding_all rfl)
    refine wpAny_getItem_list_slice ht.isList (Heap.IsSliceOf.new _ vl vu vs) pl pu ps (by decide) ?_ (by rw [List.size_toArray]; omega)
    rw [PySem.W.krv_pick]
    refine ⟨.ref _, _, I5.laid (t' := s4.toks) (o := .lst xs.reverse) (fun b ob q => Heap.get?_push_of_some _ q) (Nat.le_refl _) ?_, rfl, q _ (I5.hok.fresh (Nat.le_refl _))⟩
    exact ⟨by rw [List.length_reverse]; exact hz, _, 0, r.reverse, Heap.get?_push_size _ rfl⟩
  · obtain ⟨its, r, ht, hz⟩ := I5.tuple hx
    have hlen := r.length
    cases pl
    cases pu
    cases ps
    show wpAny (model X.prog X.w) X.A (subscriptTail e (.Slice none none (some (.UnaryOp .USub (.Constant (.int 1) k p1) p2)) p3) (.ref a) (.ref s4.heap.objs.size)) (EP X pins σ Q) X.xe { s4 with heap := s4.heap.push { cls := .type "slice", data := .fields #[.none, .none, _] } }
    refine tail_any (ops := [.ref a, .ref s4.heap.objs.size]) ht.typeIs (PyProof.Rows.slot_tuple_getitem.lookup) ?_ (by with_unfolding_all rfl)
    refine getItem_tuple_rev ht (Heap.IsSliceOf.new _ _ _ _) ?_ (by rw [List.size_toArray]; omega)
    rw [List.toList_toArray]
    refine ⟨.ref _, _, I5.laid (t' := s4.toks) (o := .tup xs.reverse) (fun b ob q => Heap.get?_push_of_some _ q) (Nat.le_refl _) ?_, rfl, q _ (I5.hok.fresh (Nat.le_refl _))⟩
    exact ⟨by rw [List.length_reverse]; exact hz, _, r.reverse, IsTup.new _ _⟩
end
end Mi

set_option linter.all false
set_option maxRecDepth 100000
set_option maxHeartbeats 4000000
/-! Mj2: enumerate(tuple) in a for, in a comprehension. -/
namespace PySem
open Sem (wp)
open AutoSeq1 (wpAny_loadPart')
theorem meets_enumerate_newT (l : Addr) (items : Array Value) (n : Nat) (dct : Option Addr) (sl : Array (Option Value)) :
    Meets (Builtin.«enumerate.__new__» ⟨[.type "enumerate", .ref l], []⟩) (fun _ R s => s.heap.get? l = some { cls := .type "tuple", dict := dct, data := .seq items n, slots := sl } ∧
      R (.ok (.ret (.ref (s.heap.push { cls := .type "tuple_iterator", data := .fields #[.ref l, .int 0 0] }).objs.size)))
        { s with heap := (s.heap.push { cls := .type "tuple_iterator", data := .fields #[.ref l, .int 0 0] }).push { cls := .type "enumerate", data := .fields #[.none, .bool false, .ref s.heap.objs.size, rawInt 0, .none, .none] } }) :=
  .of_wp fun prog w A R s h => by
    obtain ⟨hp, g, d, tk, os⟩ := s; obtain ⟨hl, h⟩ := h
    have hsub := sub_enumerate
    have hL : Heap.IsTuple (Shared.heap ⟨hp, g, d, tk, os⟩) l items := ⟨_, hl, rfl, n, rfl⟩
    wp_walk using wpAny_loadPart' hl
    refine wpAny_stack_any fun st => wpAny_pure ?_
    split
    · rename_i c _ _ _ _ _
      cases (c == Value.type "enumerate")
      · wp_walk using wpAny_loadPart' hl, wpAny_pyIter_tuple hL
        exact ⟨_, rfl, h⟩
      · wp_walk using wpAny_loadPart' hl, wpAny_pyIter_tuple hL
        exact ⟨_, rfl, h⟩
    · wp_walk using wpAny_loadPart' hl, wpAny_pyIter_tuple hL
      exact ⟨_, rfl, h⟩
section
variable {prog : Program} {w : World} {A : Around} {E : Value → Shared → Prop} {s : Shared}
theorem call_enumerate_tup {l : Addr} {items : Array Value} {Q : Value → Shared → Prop} (hL : s.heap.IsTuple l items)
    (h : ∀ h', IsEnum h' (s.heap.objs.size + 1) s.heap.objs.size 0 .none → h'.IsTupleIter s.heap.objs.size l 0 → h'.objs.size = s.heap.objs.size + 2 →
      (∀ b o, s.heap.get? b = some o → h'.get? b = some o) → Q (.ref (s.heap.objs.size + 1)) { s with heap := h' }) :
    wpAny (model prog w) A (call (.type "enumerate") [.ref l]) Q E s := by
  obtain ⟨⟨c, dct, dt, sl⟩, hl, hc, n, hd⟩ := hL
  replace hc : c = .type "tuple" := hc
  replace hd : dt = .seq items n := hd
  subst hc hd
  refine callType_new F.called_enumerate (by decide) (F.typeCall_enumerate_1 _) (F.newCall_enumerate_1 _) (fun obj => F.args_object_init_2 obj _) F.entry_enumerate_new
    (meets_enumerate_newT l items n dct sl) ⟨hl, ?_⟩
  have hz : (s.heap.push { cls := .type "tuple_iterator", data := .fields #[.ref l, .int 0 0] }).objs.size = s.heap.objs.size + 1 := Heap.size_push ..
  show _ ∧ _
  rw [hz]
  have he : IsEnum ((s.heap.push { cls := .type "tuple_iterator", data := .fields #[.ref l, .int 0 0] }).push
      { cls := .type "enumerate", data := .fields #[.none, .bool false, .ref s.heap.objs.size, rawInt 0, .none, .none] }) (s.heap.objs.size + 1) s.heap.objs.size 0 .none := by
    have := Heap.get?_push_size (s.heap.push { cls := .type "tuple_iterator", data := .fields #[.ref l, .int 0 0] })
      (o := { cls := .type "enumerate", data := .fields #[.none, .bool false, .ref s.heap.objs.size, rawInt 0, .none, .none] }) rfl
    rw [hz] at this; exact this
  refine ⟨⟨_, he, rfl⟩, h _ he ⟨_, Heap.get?_push_of_some _ (Heap.get?_push_size _ rfl), rfl, rfl⟩ (by rw [Heap.size_push, hz]) fun b o x => Heap.get?_push_of_some _ (Heap.get?_push_of_some _ x)⟩
end
end PySem
namespace Mi
open PySem PySem.Spec PyProof.Rows L2
theorem enum_endT {prog : Program} {w : World} {A : Around} {E : Value → Shared → Prop} {s : Shared} {e it l : Addr} {i : Nat} {items : Array Value} {old : Value} {Q : Option Value → Shared → Prop} (hh : A.handled = none) (he : IsEnum s.heap e it i old) (hit : s.heap.IsTupleIter it l i) (hl : s.heap.IsTuple l items) (hx : items[i]? = none)
    (hQ : ∀ h', Heap.ExtBut it s.heap h' → Q none { s with heap := h' }) : wpAny (model prog w) A (pyNext (.ref e)) Q E s := by
  have hT : s.TypeIs (.ref e) "enumerate" := ⟨_, he, rfl⟩
  unfold pyNext
  refine wpAny_bind (wpAny_attempt (wpAny_callSpecial?_slot (name := Str.ofString "__next__") hT F.slot_enumerate_next
    (wpAny_call_entry F.slot_enumerate_next hT F.entry_enumerate_next ?_ (F.args_enumerate_next_1 _))))
  show wpAny _ _ (field (.ref e) 2 >>= _) _ _ _
  refine wpAny_bind (wpAny_field he rfl (x := .ref it) rfl ?_)
  refine wpAny_bind (wpAny_nextOf_tuple_end hh hit hl hx fun h' x he' hx' => ?_)
  obtain ⟨o, ho, hc⟩ := hx'
  refine wpAny_bind (wpAny_isInstance (T := "StopIteration") (b := true) ⟨o, ho, hc⟩ isSubtype_stop ?_)
  exact wpAny_pure (hQ _ he')
def Itet (K : PySem.W.Frag) (a : Addr) : It :=
  ⟨fun i H => ∃ (xs : List V) (x : V), SqT K H a xs ∧ xs[i]? = some x, fun i H v H' => ∃ T x, v = .ref T ∧ H T = none ∧ H' = upd H T (.tup [.int (i : Nat), x]) ∧ ∀ xs, SqT K H a xs → xs[i]? = some x, fun i H => ∃ xs : List V, SqT K H a xs ∧ xs.length ≤ i⟩
theorem turn_enumT {P : Program} {w : World} {K : PySem.W.Frag} {elts : List Expr} {kk : Nat} {tpos : Pos} (a e it : Addr) (hai : a ≠ it) :
    Turn P w K (.Tuple elts kk tpos) (Itet K a) [e, it] e (fun i h => (∃ old, IsEnum h e it ((i : Nat) : Int) old) ∧ h.IsTupleIter it a i ∧ e ≠ it) where
  mem := by simp
  obj := fun i h st b hb => by
    obtain ⟨⟨old, he⟩, ⟨o, ho, hc, hd⟩, _⟩ := st
    have e' : b = e ∨ b = it := by simpa using hb
    rcases e' with z | z
    · rw [z]; exact ⟨_, he, fun v q => nomatch q⟩
    · rw [z]; exact ⟨o, ho, fun v q => by rw [hd] at q; cases q⟩
  keep := fun i h h' st k => let ⟨⟨old, he⟩, hi, hne⟩ := st; ⟨⟨old, k e (by simp) _ he⟩, hi.at fun o q => k it (by simp) o q, hne⟩
  item := by
    intro X hP hw hK hc i pins s σ H E I hf st hg
    subst hP hw hK
    obtain ⟨⟨old, he⟩, hit, hne⟩ := st
    obtain ⟨xs, x, hq, hx⟩ := hg
    obtain ⟨its, rv, p, hz⟩ := I.tuple hq
    obtain ⟨u, hu, ru⟩ := rv.get hx
    have hel : e < s.heap.objs.size := Heap.lt_size he
    have hil : it < s.heap.objs.size := by obtain ⟨_, q, _⟩ := hit; exact Heap.lt_size q
    have hiu : i < its.toArray.size := by
      rw [List.size_toArray]
      exact (List.getElem?_eq_some_iff.mp hu).1
    have pt : s.heap.IsTuple a its.toArray := p
    have hea : e ≠ a := fun z => by
      obtain ⟨o, ho, hc, _⟩ := id pt
      have he' := he
      rw [z] at he'
      have : some o = some _ := ho.symm.trans he'
      cases this
      exact absurd (Value.type.inj hc) (by decide)
    refine wpAny_pyNext_enum_itemD (Draws.tuple (A := X.A.in1) (I.ok.hd hc) it a hai its.toArray) he ⟨hit, pt⟩ hiu hne (by simp [hne, hea]) fun u' h' tk hP ho hit' hT hsz hk => ?_
    have eu : u' = u := by
      have : its.toArray[i]? = some u := by simpa using hu
      rw [this] at hP
      exact (Option.some.inj hP).symm
    subst eu
    refine ⟨_, rfl, wpAny_letOwnedTupleGo_enum (s := { s with heap := h', toks := tk + 1 }) ho fun h'' he' sb => ?_⟩
    have hT2 : h''.get? s.heap.objs.size = some { cls := .type "tuple", data := .seq #[.int i tk, u'] } := (sb.2 _ (Nat.ne_of_gt hel)).trans hT
    have new : ObjOk X.prog X.w (upd H s.heap.objs.size (.tup [.int (i : Nat), x])) h'' s.heap.objs.size (.tup [.int (i : Nat), x]) :=
      ⟨by show 2 ≤ sizeLine; decide, [.int i tk, u'], .cons ⟨_, rfl⟩ (.cons ru .nil), ⟨_, hT2, rfl, _, rfl⟩⟩
    have I1 : Inv X pins σ (upd H s.heap.objs.size (.tup [.int (i : Nat), x])) { s with heap := h'', toks := tk + 1 } :=
      I.turnedNew (ch := [e, it]) (fun b ob hb q => (sb.2 b (fun z => hb (by simp [z]))).trans (hk b ob (fun z => hb (by simp [z])) (fun z => hb (by simp [z])) q)) hf (Nat.le_refl _) new
    refine ⟨.ref s.heap.objs.size, _, I1, rfl, ⟨_, x, rfl, I.hok.fresh (Nat.le_refl _), rfl, fun ys hy => by rw [I.tuple_inj hy hq]; exact hx⟩, ⟨⟨u', ?_⟩, hit'.1.at fun o q => (sb.2 it (Ne.symm hne)).trans q, hne⟩, fun b hb => ?_⟩
    · have e1 : ((i + 1 : Nat) : Int) = (i : Int) + 1 := by omega
      rw [e1]; exact he'
    · have hb' : b < s.heap.objs.size := by
        have e' : b = e ∨ b = it := by simpa using hb
        rcases e' with z | z
        · rw [z]; exact hel
        · rw [z]; exact hil
      rw [upd_ne (Nat.ne_of_lt hb')]
      exact (hf b hb).1
  done := by
    intro X hP hw hK hc i pins s σ H E I hf st hg
    subst hP hw hK
    obtain ⟨⟨old, he⟩, hit, hne⟩ := st
    obtain ⟨xs, hq, hx⟩ := hg
    obtain ⟨its, rv, p, hz⟩ := I.tuple hq
    obtain ⟨f0, f1, f2, f3, f4, f5⟩ := hf it (by simp)
    have hl := rv.length
    have pt : s.heap.IsTuple a its.toArray := p
    obtain ⟨o, ho, hci, hd⟩ := hit
    obtain ⟨oa, hoa, hca, hda⟩ := pt
    have hil : it < s.heap.objs.size := Heap.lt_size ho
    -- the end is told by the tuple's own iterator, wherever it stands
    refine enum_endT (I.ok.hd hc) he ⟨o, ho, hci, hd⟩ ⟨oa, hoa, hca, hda⟩ (by simp; omega) fun h' eb => ⟨rfl, I.turned (t' := s.toks) (fun b o hb q => eb b o hb q) f0 f1 f3 f4 f5⟩
  self := fun A i s Q E st h => let ⟨⟨_, he⟩, _⟩ := st; wpAny_pyIter_enum he h
theorem pi_enumT {X : Cx} {e : Expr} {ta : TA} {p pos tpos : Pos} {elts : List Expr} {kk : Nat} (hg : Gl X "enumerate") (hm : X.mg "enumerate" = none) (ha : PA X [e] ta) (hs : starEach [e] X.env = [(false, eval e X.env)] := by rfl) :
    PI X (.Tuple elts kk tpos) (.Call (.Name "enumerate" p) [e] [] pos) (fun σ H R => ta σ H fun vs H1 => ∃ a xs, vs = [.ref a] ∧ ((SqL X.K H1 a xs ∧ R (Ite X.K a) H1) ∨ (SqT X.K H1 a xs ∧ R (Itet X.K a) H1))) := by
  refine ⟨fun pins s σ H R I h => ?_⟩
  refine Call_ (ld_blt I hg hm boot_enumerate (PyProof.Rows.callWith_type1 (thn (ha.run pos pins s σ H _ I h) fun us s1 ⟨vs, H1, I1, r1, q1⟩ => ?_) hs rfl))
  obtain ⟨a, xs, ex, q⟩ := q1
  subst ex
  cases r1 with
  | cons r rr =>
    cases rr
    cases r
    rcases q with ⟨hq, q⟩ | ⟨hq, q⟩
    · obtain ⟨its, rv, p', hz⟩ := I1.list hq
      refine call_enumerate_list p'.isList fun h' he hit hsz hk => wpAny_pyIter_enum he ?_
      have I2 : Inv X pins σ H1 { s1 with heap := h' } := I1.kept (t' := s1.toks) hk
      refine ⟨s1.heap.objs.size + 1, [s1.heap.objs.size + 1, s1.heap.objs.size], _, _, H1, rfl, I2, turn_enum a (s1.heap.objs.size + 1) s1.heap.objs.size, ⟨⟨.none, he⟩, hit, Nat.succ_ne_self _⟩, fun b hb => ?_, q⟩
      have e' : b = s1.heap.objs.size + 1 ∨ b = s1.heap.objs.size := by simpa using hb
      have hle : s1.heap.objs.size ≤ b := by
        rcases e' with z | z
        · rw [z]; exact Nat.le_add_right _ _
        · rw [z]; exact Nat.le_refl _
      exact I1.fpOk hle (I1.hok.fresh hle)
    · obtain ⟨its, rv, p', hz⟩ := I1.tuple hq
      have pt : s1.heap.IsTuple a its.toArray := p'
      have hlt : a < s1.heap.objs.size := by
        obtain ⟨o, ho, _⟩ := pt
        exact Heap.lt_size ho
      refine call_enumerate_tup pt fun h' he hit hsz hk => wpAny_pyIter_enum he ?_
      have I2 : Inv X pins σ H1 { s1 with heap := h' } := I1.kept (t' := s1.toks) hk
      refine ⟨s1.heap.objs.size + 1, [s1.heap.objs.size + 1, s1.heap.objs.size], _, _, H1, rfl, I2, turn_enumT a (s1.heap.objs.size + 1) s1.heap.objs.size (Nat.ne_of_lt hlt), ⟨⟨.none, he⟩, hit, Nat.succ_ne_self _⟩, fun b hb => ?_, q⟩
      have e' : b = s1.heap.objs.size + 1 ∨ b = s1.heap.objs.size := by simpa using hb
      have hle : s1.heap.objs.size ≤ b := by
        rcases e' with z | z
        · rw [z]; exact Nat.le_add_right _ _
        · rw [z]; exact Nat.le_refl _
      exact I1.fpOk hle (I1.hok.fresh hle)
end Mi

set_option linter.all false
set_option maxRecDepth 100000
/-! Mi1: small values, a small tree form of the programs, and what it evaluates to. -/
namespace Mi
open PySem PySem.Spec PyProof.Rows L2

/-- a value: data; the number of a list in the store; the script -/
inductive D where
  | non | bl (b : Bool) | int (i : Int) | str (x : Str) | lst (xs : List D) | tup (xs : List D) | ref (n : Nat) | scr (is : List Int) | dic (ks : List L2.Key) (vs : List D)
  deriving Inhabited

abbrev Mu := List (List D)
def keyP : L2.Key → PyData
  | .inl i => .int i
  | .inr x => .str x

mutual
def D.py : D → Option PyData
  | .non => some .none
  | .bl b => some (.bool b)
  | .int i => some (.int i)
  | .str x => some (.str x)
  | .lst xs => match pys xs with | some ys => some (.list ys) | none => none
  | .tup xs => match pys xs with | some ys => some (.tuple ys) | none => none
  | .ref _ => none
  | .scr _ => none
  | .dic ks vs => match pys vs with | some ys => if ks.length = ys.length then some (.dict ((ks.map keyP).zip ys)) else none | none => none
def pys : List D → Option (List PyData)
  | [] => some []
  | x :: r => match x.py, pys r with | some a, some b => some (a :: b) | _, _ => none
end

/-- what comes of an evaluation: a value and the store; an exception (its class, what it bears) and the store; nothing is said -/
inductive Res (α : Type) where
  | ok (a : α) (m : Mu)
  | ex (c : Nat) (a : List D) (m : Mu)
  | bad

def Res.bind {α β : Type} (r : Res α) (f : α → Mu → Res β) : Res β :=
  match r with
  | .ok a m => f a m
  | .ex c a m => .ex c a m
  | .bad => .bad

/-- a value or nothing -/
def Res.of (o : Option D) (m : Mu) : Res D := match o with | some d => .ok d m | none => .bad

inductive Slot where
  | un | val (d : D) | own (ds : List D)
  deriving Inhabited

inductive B1 where
  | len | all | any | sum | tuple | list | sorted | abs | int | str | repr | max | min
  deriving DecidableEq
inductive B2 where
  | max | min | divmod
  deriving DecidableEq
inductive Ty where
  | int | bool | str | list | tuple | seq
  deriving DecidableEq
inductive M0 where
  | upper
  deriving DecidableEq
inductive M1 where
  | split | join | startswith
  deriving DecidableEq
/-- what a loop walks: a thing; range(a), range(a, b); enumerate(a); zip(a, b) -/
inductive IK where
  | seq | range1 | range2 | enum | zip
  deriving DecidableEq
/-- what is assigned to -/
inductive Tgt where
  | nm (i : Nat)
  | tp (is : List Nat)
  deriving DecidableEq

/-- len(set(a)), sorted(set(a)), list(range(a)), tuple(range(a)), a[::-1] -/
inductive SpK where
  | lenSet | sortSet | listRange | tupRange | rev
  deriving DecidableEq
mutual
inductive Ex where
  | cst (c : Const)
  | var (i : Nat)
  | view (i : Nat)
  | glb (g : Nat)
  | tup (es : Exs)
  | lst (es : Exs)
  | op (o : Operator) (a b : Ex)
  | neg (a : Ex)
  | cmp (o : CmpOp) (a b : Ex)
  | cmp2 (o p : CmpOp) (a b c : Ex)
  | and (es : Exs)
  | or (es : Exs)
  | not (a : Ex)
  | ite (c a b : Ex)
  | call (f : Nat) (es : Exs)
  | callk (f : Nat) (es : Exs) (ks : List Str) (ord : List Nat) (es2 : Exs)
  | b1 (b : B1) (a : Ex)
  | b2 (b : B2) (a c : Ex)
  | max3 (a b c : Ex)
  | isa (t : Ty) (a : Ex)
  | m1 (m : M1) (a b : Ex)
  | idx (a i : Ex)
  | slB (a lo hi : Ex)
  | slL (a lo : Ex)
  | slH (a hi : Ex)
  | dic0
  | sp (k : SpK) (a : Ex)
  | comp (own : List (Str × Nat)) (elt : Ex) (tg : Tgt) (ik : IK) (its : Exs)
  | compIf (own : List (Str × Nat)) (elt : Ex) (tg : Tgt) (ik : IK) (its : Exs) (c : Ex)
inductive Exs where
  | nil
  | cons (e : Ex) (r : Exs)
end

mutual
inductive Stm where
  /-- name = e -/
  | set (i : Nat) (e : Ex)
  /-- name = a new list that nobody else holds -/
  | seto (i : Nat) (e : Ex)
  /-- a, b = x, y; the lists at own are new ones that nobody else holds -/
  | par (is : List Nat) (es : Exs) (own : List Nat)
  /-- a, b = e -/
  | unp (is : List Nat) (e : Ex)
  /-- xs.append(e), an own list -/
  | app (i : Nat) (e : Ex)
  /-- xs.extend(e), an own list -/
  | ext (i : Nat) (e : Ex)
  /-- xs[e] = e', an own list -/
  | seti (i : Nat) (ix e : Ex)
  /-- r[c] = e, a list of the store at a name, a written place -/
  | setr (i : Nat) (c : Nat) (e : Ex)
  /-- r[c], b = e: a list of the store at a name; e makes a pair -/
  | setrp (i : Nat) (c : Nat) (j : Nat) (e : Ex)
  /-- xs.append(ys.pop(e)), own lists -/
  | popa (i j : Nat) (e : Ex)
  /-- name = f(..); name.append(c): a new list that is spoilt, the name forgotten -/
  | spoil2 (i : Nat) (e : Ex) (c : Const)
  | drop (e : Ex)
  /-- f(..).append(c), f(..)[k].append(c): what comes of a call whose arguments hold no list is spoilt -/
  | spoil (e : Ex) (path : List Nat) (c : Const)
  | cond (c : Ex) (a b : Stms)
  | for_ (tg : Tgt) (ik : IK) (its : Exs) (b : Stms)
  | while_ (c : Ex) (b : Stms)
  | ret (e : Ex)
  /-- return of a new list of the store -/
  | retr (es : Exs)
  | retN
  | raise (c : Nat) (es : Exs)
  /-- an own list is no longer changed from here on (nothing stands for it in the text) -/
  | frz (i : Nat)
inductive Stms where
  | nil
  | cons (s : Stm) (r : Stms)
end
end Mi

set_option linter.all false
set_option maxRecDepth 100000
/-! Mi2: what the trees evaluate to. -/
namespace Mi
open PySem PySem.Spec PyProof.Rows L2

/-! ### data -/
def cD : Const → D
  | .none => .non
  | .bool b => .bl b
  | .int i => .int i
  | .str x => .str x
  | _ => .ref 0
def okC : Const → Bool
  | .none => true | .bool _ => true | .int _ => true | .str _ => true
  | _ => false
def sign1 (c : Nat) : D := .str ⟨#[c]⟩
def ints? : List D → Option (List Int)
  | [] => some []
  | .int i :: r => match ints? r with | some l => some (i :: l) | none => none
  | _ => none
def bls? : List D → Option (List Bool)
  | [] => some []
  | .bl i :: r => match bls? r with | some l => some (i :: l) | none => none
  | _ => none
def strs? : List D → Option (List Str)
  | [] => some []
  | .str i :: r => match strs? r with | some l => some (i :: l) | none => none
  | _ => none
def small (d : PyData) : Bool := decide (d.depth ≤ 40)
/-- a == b -/
def eqD (a b : D) : Option Bool := match a.py, b.py with
  | some x, some y => if small x && small y && x.plain && y.plain then some (PyData.eqv x y) else none
  | _, _ => none
/-- x in c -/
def inD (x c : D) : Option Bool := match x, c with
  | .str a, .str b => some (!(Builtin.Str.occurrences b a 0 b.length 1).isEmpty)
  | x, .lst cs => match x.py, pys cs with
    | some p, some qs => if small p && p.plain && PyData.plainAll qs then some (qs.any fun q => PyData.eqv q p) else none
    | _, _ => none
  | x, .tup cs => match x.py, pys cs with
    | some p, some qs => if small p && p.plain && PyData.plainAll qs then some (qs.any fun q => PyData.eqv q p) else none
    | _, _ => none
  | _, _ => none
/-- a length that a list or a text may have -/
def fit (n : Nat) : Bool := decide (n ≤ 16777216)

def binop : Operator → D → D → Option D
  | .Add, .int i, .int j => some (.int (i + j))
  | .Add, .str x, .str y => if fit (x.length + y.length) then some (.str (x ++ y)) else none
  | .Add, .lst a, .lst b => if fit (a.length + b.length) then some (.lst (a ++ b)) else none
  | .Add, .tup a, .tup b => if fit (a.length + b.length) then some (.tup (a ++ b)) else none
  | .Sub, .int i, .int j => some (.int (i - j))
  | .Mult, .int i, .int j => if decide (i.natAbs.log2 + j.natAbs.log2 < 1000000) then some (.int (i * j)) else none
  | .Mult, .lst a, .int j => if decide (0 ≤ j ∧ j < 10000) && fit (a.length * j.toNat) then some (.lst (List.replicate j.toNat a).flatten) else none
  | .FloorDiv, .int i, .int j => if decide (0 < j ∧ j.natAbs.log2 < 9000) then some (.int (i / j)) else none
  | .Mod, .int i, .int j => if decide (0 < j) then some (.int (i % j)) else none
  | .Pow, .int i, .int j => if decide (0 ≤ j ∧ j ≤ 1000000 ∧ i.natAbs < 18446744073709551616) then some (.int (i ^ j.toNat)) else none
  | _, _, _ => none
def negop : D → Option D
  | .int i => some (.int (-i))
  | _ => none
def isNon : D → Bool
  | .non => true
  | _ => false
def cmpop : CmpOp → D → D → Option Bool
  | .Eq, a, b => eqD a b
  | .NotEq, a, b => (eqD a b).map not
  | .Lt, .int i, .int j => some (decide (i < j))
  | .LtE, .int i, .int j => some (decide (i ≤ j))
  | .Gt, .int i, .int j => some (decide (j < i))
  | .GtE, .int i, .int j => some (decide (j ≤ i))
  | .Is, a, .non => some (isNon a)
  | .IsNot, a, .non => some (!isNon a)
  | .In, a, b => inD a b
  | .NotIn, a, b => (inD a b).map not
  | _, _, _ => none
def isaD (t : Ty) : D → Option Bool
  | .ref _ => none
  | .scr _ => none
  | .dic _ _ => some false
  | .non => some false
  | .bl _ => some (t == .int || t == .bool)
  | .int _ => some (t == .int)
  | .str _ => some (t == .str)
  | .lst _ => some (t == .list || t == .seq)
  | .tup _ => some (t == .tuple || t == .seq)
def b1op : B1 → D → Option D
  | .len, .lst xs => some (.int xs.length)
  | .len, .tup xs => some (.int xs.length)
  | .len, .scr is => some (.int is.length)
  | .len, .str x => if fit x.length then some (.int x.length) else none
  | .all, .lst xs => match bls? xs with | some bs => some (.bl (bs.all id)) | none => none
  | .any, .lst xs => match bls? xs with | some bs => some (.bl (bs.any id)) | none => none
  | .sum, .lst xs => match ints? xs with | some is => some (.int is.sum) | none => none
  | .tuple, .lst xs => some (.tup xs)
  | .tuple, .tup xs => some (.tup xs)
  | .list, .lst xs => some (.lst xs)
  | .list, .tup xs => some (.lst xs)
  | .abs, .int i => some (.int (if i < 0 then -i else i))
  | .int, .int i => some (.int i)
  | .int, .bl b => some (.int (if b then 1 else 0))
  | .int, .str x => if decide (x.length ≤ 640) then (intText? x).map .int else none
  | .str, .int i => if decide (i.natAbs.log2 < 1920) then some (.str (toString i)) else none
  | .str, .str x => some (.str x)
  | .sorted, .lst xs => match ints? xs with | some is => some (.lst ((isort is).map .int)) | none => none
  | .sorted, .tup xs => match ints? xs with | some is => some (.lst ((isort is).map .int)) | none => none
  | .max, .lst xs => match ints? xs with | some is => (maxL is).map .int | none => none
  | .min, .lst xs => match ints? xs with | some is => (minL is).map .int | none => none
  | .repr, d => match d.py with
    | some p => if small p && p.showable && fit p.shown.length then some (.str p.shown) else none
    | none => none
  | _, _ => none
def b2op : B2 → D → D → Option D
  | .max, .int i, .int j => some (.int (if j > i then j else i))
  | .min, .int i, .int j => some (.int (if j < i then j else i))
  | .divmod, .int i, .int j => if decide (0 < j ∧ j < 1073741824) then some (.tup [.int (i / j), .int (i % j)]) else none
  | _, _, _ => none
def joinSize (a : Str) (ys : List Str) : Nat := (ys.map (·.length)).sum + ys.length * a.length
def max3D : D → D → D → Option D
  | .int i, .int j, .int k => some (.int (if k > (if j > i then j else i) then k else (if j > i then j else i)))
  | _, _, _ => none
def splitD : D → D → Option D
  | .str a, .str b => if !(b.length == 0) && fit (a.length + 2) then some (.lst ((Txt.split a b).map .str)) else none
  | _, _ => none
def joinD : D → D → Option D
  | .str a, .lst xs => match strs? xs with | some ys => if fit (joinSize a ys) then some (.str (Txt.join a ys)) else none | none => none
  | .str a, .tup xs => match strs? xs with | some ys => if fit (joinSize a ys) then some (.str (Txt.join a ys)) else none | none => none
  | _, _ => none
def startsD : D → D → Option D
  | .str a, .str b => some (.bl (Txt.startswith a b))
  | _, _ => none
def rng (a : Int) : Nat → List D
  | 0 => []
  | n + 1 => .int a :: rng (a + 1) n
def spop : SpK → D → Option D
  | .lenSet, .tup xs => match ints? xs with | some is => if decide (is.length ≤ 1000) then some (.int (nub is).length) else none | none => none
  | .sortSet, .tup xs => match ints? xs with | some is => if decide (is.length < 64) then some (.lst ((sset is).map .int)) else none | none => none
  | .listRange, .int n => if decide (0 ≤ n ∧ n ≤ 16777216) then some (.lst (rng 0 n.toNat)) else none
  | .tupRange, .int n => if decide (0 ≤ n ∧ n ≤ 16777216) then some (.tup (rng 0 n.toNat)) else none
  | .rev, .lst xs => some (.lst xs.reverse)
  | .rev, .tup xs => some (.tup xs.reverse)
  | _, _ => none
def m1op : M1 → D → D → Option D
  | .split => splitD
  | .join => joinD
  | .startswith => startsD

/-! ### places, parts, what is walked -/
def cutL {α : Type} (xs : List α) (lo hi : Option Int) : List α := (xs.drop (HT.sIx xs.length 0 lo)).take (HT.sIx xs.length xs.length hi - HT.sIx xs.length 0 lo)
def idxD (m : Mu) : D → D → Option D
  | .lst xs, .int i => atI xs i
  | .tup xs, .int i => atI xs i
  | .str x, .int i => if fit x.length then (atI x.cps.toList i).map sign1 else none
  | .scr is, .int i => (atI is i).map .int
  | .ref n, .int i => match m[n]? with | some xs => atI xs i | none => none
  | _, _ => none
def slD : D → Option Int → Option Int → Option D
  | .lst xs, lo, hi => some (.lst (cutL xs lo hi))
  | .tup xs, lo, hi => some (.tup (cutL xs lo hi))
  | .str x, lo, hi => if fit x.length then some (.str (cutS x lo hi)) else none
  | _, _, _ => none
def slI : D → D → D → Option D
  | a, .int i, .int j => slD a (some i) (some j)
  | _, _, _ => none
def slLI : D → D → Option D
  | a, .int i => slD a (some i) none
  | _, _ => none
def slHI : D → D → Option D
  | a, .int i => slD a none (some i)
  | _, _ => none
def seqI : D → Option (List D)
  | .lst xs => some xs
  | .tup xs => some xs
  | .str x => some (x.cps.toList.map sign1)
  | _ => none
def inR (i : Int) : Bool := decide (-4611686018427387904 ≤ i ∧ i < 4611686018427387904)
def pairs : List D → List D → List D
  | x :: xs, y :: ys => .tup [x, y] :: pairs xs ys
  | _, _ => []
def enums (i : Int) : List D → List D
  | [] => []
  | x :: xs => .tup [.int i, x] :: enums (i + 1) xs
def itemsD : IK → List D → Option (List D)
  | .seq, [a] => seqI a
  | .range1, [.int j] => if inR j then some (rng 0 j.toNat) else none
  | .range2, [.int i, .int j] => if inR i && inR j then some (rng i (j - i).toNat) else none
  | .enum, [.lst xs] => some (enums 0 xs)
  | .enum, [.tup xs] => some (enums 0 xs)
  | .zip, [.lst xs, .lst ys] => some (pairs xs ys)
  | .zip, [.tup xs, .tup ys] => some (pairs xs ys)
  | _, _ => none
def bindT : Tgt → D → List Slot → Option (List Slot)
  | .nm i, d, r => some (r.set i (.val d))
  | .tp is, .tup ds, r => if is.length = ds.length then some ((is.zip ds).foldl (fun r p => r.set p.1 (.val p.2)) r) else none
  | _, _, _ => none
def wipeS (r : List Slot) : List Nat → List Slot
  | [] => r
  | v :: vs => (wipeS r vs).set v .un

/-! ### trees -/
def vx (r : List Slot) (e : Ex) (m : Mu) (x : Res D) : Res D := match e with
  | .view i => match r[i]? with
    | some (.own ds) => .ok (.lst ds) m
    | some (.val d) => .ok d m
    | _ => .bad
  | _ => x
def asB (x : Res D) : Res Bool := match x with
  | .ok (.bl b) m => .ok b m
  | .ok _ _ => .bad
  | .ex c a m => .ex c a m
  | .bad => .bad
/-- a comprehension's turns; an exception within is not followed -/
def mapR (f : D → Mu → Res D) : List D → Mu → Res (List D)
  | [], m => .ok [] m
  | x :: xs, m => match f x m with
    | .ok y m => match mapR f xs m with
      | .ok ys m => .ok (y :: ys) m
      | _ => .bad
    | _ => .bad
def mapIfR (c : D → Mu → Res Bool) (f : D → Mu → Res D) : List D → Mu → Res (List D)
  | [], m => .ok [] m
  | x :: xs, m => match c x m with
    | .ok true m => (match f x m with
      | .ok y m => match mapIfR c f xs m with
        | .ok ys m => .ok (y :: ys) m
        | _ => .bad
      | _ => .bad)
    | .ok false m => mapIfR c f xs m
    | _ => .bad
def lstR (x : Res (List D)) : Res D := match x with
  | .ok ys m => if fit ys.length then .ok (.lst ys) m else .bad
  | _ => .bad
/-- the module's constants, and the defs by their numbers -/
structure Env0 where
  consts : List D
  call : Nat → List D → Mu → Res D
def permD (xs ys : List D) (ord : List Nat) : Option (List D) := ord.foldr (fun i acc => match (xs ++ ys)[i]?, acc with | some d, some r => some (d :: r) | _, _ => none) (some [])

mutual
def ev (g : Env0) : Ex → List Slot → Mu → Res D
  | .cst c, _, m => .ok (cD c) m
  | .var i, r, m => match r[i]? with | some (.val d) => .ok d m | _ => .bad
  | .view _, _, _ => .bad
  | .glb i, _, m => .of g.consts[i]? m
  | .tup es, r, m => (evs g es r m).bind fun ds m => .ok (.tup ds) m
  | .lst es, r, m => (evs g es r m).bind fun ds m => .ok (.lst ds) m
  | .op o a b, r, m => (vx r a m (ev g a r m)).bind fun x m => (vx r b m (ev g b r m)).bind fun y m => .of (binop o x y) m
  | .neg a, r, m => (ev g a r m).bind fun x m => .of (negop x) m
  | .cmp o a b, r, m => (vx r a m (ev g a r m)).bind fun x m => (vx r b m (ev g b r m)).bind fun y m => .of ((cmpop o x y).map .bl) m
  | .cmp2 o p a b c, r, m => (ev g a r m).bind fun x m => (ev g b r m).bind fun y m => match cmpop o x y with
    | some true => (ev g c r m).bind fun z m => .of ((cmpop p y z).map .bl) m
    | some false => .ok (.bl false) m
    | none => .bad
  | .and es, r, m => evAnd g es r m
  | .or es, r, m => evOr g es r m
  | .not a, r, m => (asB (ev g a r m)).bind fun b m => .ok (.bl (!b)) m
  | .ite c a b, r, m => (asB (ev g c r m)).bind fun t m => if t then ev g a r m else ev g b r m
  | .call f es, r, m => (evs g es r m).bind fun ds m => g.call f ds m
  | .callk f es _ ord es2, r, m => (evs g es r m).bind fun ds m => (evs g es2 r m).bind fun ds2 m => match permD ds ds2 ord with
    | some l => g.call f l m
    | none => .bad
  | .b1 b a, r, m => (vx r a m (ev g a r m)).bind fun x m => .of (b1op b x) m
  | .b2 b a c, r, m => (ev g a r m).bind fun x m => (ev g c r m).bind fun y m => .of (b2op b x y) m
  | .max3 a b c, r, m => (ev g a r m).bind fun x m => (ev g b r m).bind fun y m => (ev g c r m).bind fun z m => .of (max3D x y z) m
  | .isa t a, r, m => (ev g a r m).bind fun x m => .of ((isaD t x).map .bl) m
  | .m1 k a b, r, m => (ev g a r m).bind fun x m => (vx r b m (ev g b r m)).bind fun y m => .of (m1op k x y) m
  | .idx a i, r, m => (vx r a m (ev g a r m)).bind fun x m => (ev g i r m).bind fun y m => .of (idxD m x y) m
  | .slB a i j, r, m => (vx r a m (ev g a r m)).bind fun x m => (ev g i r m).bind fun y m => (ev g j r m).bind fun z m => .of (slI x y z) m
  | .slL a i, r, m => (vx r a m (ev g a r m)).bind fun x m => (ev g i r m).bind fun y m => .of (slLI x y) m
  | .slH a i, r, m => (vx r a m (ev g a r m)).bind fun x m => (ev g i r m).bind fun y m => .of (slHI x y) m
  | .dic0, _, m => .ok (.dic [] []) m
  | .sp k a, r, m => (vx r a m (ev g a r m)).bind fun x m => .of (spop k x) m
  | .comp own elt tg ik its, r, m => (evx g its r m).bind fun ds m => match itemsD ik ds with
    | some xs => lstR (mapR (fun x m => match bindT tg x (wipeS r (own.map (·.2))) with
        | some r' => ev g elt r' m
        | none => .bad) xs m)
    | none => .bad
  | .compIf own elt tg ik its c, r, m => (evx g its r m).bind fun ds m => match itemsD ik ds with
    | some xs => lstR (mapIfR (fun x m => match bindT tg x (wipeS r (own.map (·.2))) with
        | some r' => asB (ev g c r' m)
        | none => .bad) (fun x m => match bindT tg x (wipeS r (own.map (·.2))) with
        | some r' => ev g elt r' m
        | none => .bad) xs m)
    | none => .bad
def evs (g : Env0) : Exs → List Slot → Mu → Res (List D)
  | .nil, _, m => .ok [] m
  | .cons e es, r, m => (ev g e r m).bind fun d m => (evs g es r m).bind fun ds m => .ok (d :: ds) m
/-- .. own lists among them are looked at -/
def evx (g : Env0) : Exs → List Slot → Mu → Res (List D)
  | .nil, _, m => .ok [] m
  | .cons e es, r, m => (vx r e m (ev g e r m)).bind fun d m => (evx g es r m).bind fun ds m => .ok (d :: ds) m
def evAnd (g : Env0) : Exs → List Slot → Mu → Res D
  | .nil, _, _ => .bad
  | .cons e .nil, r, m => ev g e r m
  | .cons e es, r, m => (asB (ev g e r m)).bind fun b m => if b then evAnd g es r m else .ok (.bl false) m
def evOr (g : Env0) : Exs → List Slot → Mu → Res D
  | .nil, _, _ => .bad
  | .cons e .nil, r, m => ev g e r m
  | .cons e es, r, m => (asB (ev g e r m)).bind fun b m => if b then .ok (.bl true) m else evOr g es r m
end

/-- what comes of a statement -/
inductive SRes where
  | nx (r : List Slot) (m : Mu)
  | rt (d : D) (m : Mu)
  | ex (c : Nat) (a : List D) (m : Mu)
  | bad
def Res.st {α : Type} (x : Res α) (f : α → Mu → SRes) : SRes := match x with
  | .ok a m => f a m
  | .ex c a m => .ex c a m
  | .bad => .bad
def forR (f : D → List Slot → Mu → SRes) : List D → List Slot → Mu → SRes
  | [], r, m => .nx r m
  | x :: xs, r, m => match f x r m with
    | .nx r m => forR f xs r m
    | o => o
def whileR (c : List Slot → Mu → Res Bool) (f : List Slot → Mu → SRes) : Nat → List Slot → Mu → SRes
  | 0, _, _ => .bad
  | n + 1, r, m => (c r m).st fun b m => if b then (match f r m with
    | .nx r m => whileR c f n r m
    | o => o) else .nx r m
mutual
def noList : D → Bool
  | .lst _ => false | .ref _ => false | .scr _ => false | .dic _ _ => false
  | .tup xs => noLists xs
  | _ => true
def noLists : List D → Bool
  | [] => true
  | x :: r => noList x && noLists r
end
def pathD : D → List Nat → Option D
  | d, [] => some d
  | .tup xs, i :: p => match xs[i]? with | some d => pathD d p | none => none
  | _, _ => none
def setAll (r : List Slot) (is : List Nat) (ds : List D) : List Slot := (is.zip ds).foldl (fun r p => r.set p.1 (.val p.2)) r
def ownAll (r : List Slot) : List Nat → Option (List Slot)
  | [] => some r
  | i :: is => match r[i]? with | some (.val (.lst ds)) => ownAll (r.set i (.own ds)) is | _ => none
/-- a call whose arguments and store hold no list: its value and the store behind it -/
def callOf (g : Env0) (e : Ex) (r : List Slot) (m : Mu) : Option (D × Mu) := match e with
  | .call f es => match evs g es r m with
    | .ok ds m1 => if noLists ds && m1.all noLists then (match g.call f ds m1 with
      | .ok d m2 => if m2.all noLists then some (d, m2) else none
      | _ => none) else none
    | _ => none
  | _ => none

mutual
def evS (g : Env0) (n : Nat) : Stm → List Slot → Mu → SRes
  | .set i e, r, m => (ev g e r m).st fun d m => .nx (r.set i (.val d)) m
  | .seto i e, r, m => (ev g e r m).st fun d m => match d with | .lst ds => .nx (r.set i (.own ds)) m | _ => .bad
  | .par is es own, r, m => (evs g es r m).st fun ds m => if is.length = ds.length then (match ownAll (setAll r is ds) own with | some r => .nx r m | none => .bad) else .bad
  | .unp is e, r, m => (ev g e r m).st fun d m => match d with | .tup ds => if is.length = ds.length then .nx (setAll r is ds) m else .bad | _ => .bad
  | .app i e, r, m => (ev g e r m).st fun d m => match r[i]? with
    | some (.own ds) => if fit (ds.length + 1) then .nx (r.set i (.own (ds ++ [d]))) m else .bad
    | _ => .bad
  | .ext i e, r, m => (vx r e m (ev g e r m)).st fun d m => match r[i]?, d with
    | some (.own ds), .lst xs => if fit (ds.length + xs.length) then .nx (r.set i (.own (ds ++ xs))) m else .bad
    | _, _ => .bad
  | .seti i ix e, r, m => (ev g e r m).st fun d m => (ev g ix r m).st fun k m => match r[i]?, k with
    | some (.own ds), .int k => match ixN ds.length k with | some j => .nx (r.set i (.own (ds.set j d))) m | none => .bad
    | _, _ => .bad
  | .setr i c e, r, m => (ev g e r m).st fun d m => match r[i]? with
    | some (.val (.ref a)) => match m[a]? with
      | some xs => if c < xs.length then .nx r (m.set a (xs.set c d)) else .bad
      | none => .bad
    | _ => .bad
  | .setrp i c j e, r, m => (ev g e r m).st fun d m => match r[i]?, d with
    | some (.val (.ref a)), .tup [x, y] => match m[a]? with
      | some xs => if c < xs.length then .nx (r.set j (.val y)) (m.set a (xs.set c x)) else .bad
      | none => .bad
    | _, _ => .bad
  | .popa i j e, r, m => (ev g e r m).st fun k m => match r[i]?, r[j]?, k with
    | some (.own ds), some (.own es), .int k => match ixN es.length k, inR k && fit (ds.length + 1) with
      | some t, true => (match es[t]? with
        | some d => .nx ((r.set j (.own (es.eraseIdx t))).set i (.own (ds ++ [d]))) m
        | none => .bad)
      | _, _ => .bad
    | _, _, _ => .bad
  | .spoil2 i e _, r, m => match callOf g e r m with
    | some (.lst xs, m) => if fit (xs.length + 1) && decide (i < r.length) then .nx (r.set i .un) m else .bad
    | _ => .bad
  | .drop e, r, m => (ev g e r m).st fun _ m => .nx r m
  | .spoil e p _, r, m => match callOf g e r m with
    | some (d, m) => (match pathD d p with | some (.lst xs) => if fit (xs.length + 1) then .nx r m else .bad | _ => .bad)
    | _ => .bad
  | .cond c a b, r, m => (asB (ev g c r m)).st fun t m => if t then evSs g n a r m else evSs g n b r m
  | .for_ tg ik its b, r, m => (evs g its r m).st fun ds m => match itemsD ik ds with
    | some xs => forR (fun x r m => match bindT tg x r with | some r' => evSs g n b r' m | none => .bad) xs r m
    | none => .bad
  | .while_ c b, r, m => whileR (fun r m => asB (ev g c r m)) (fun r m => evSs g n b r m) n r m
  | .ret e, r, m => (ev g e r m).st fun d m => .rt d m
  | .retr es, r, m => (evs g es r m).st fun ds m => .rt (.ref m.length) (m ++ [ds])
  | .retN, _, m => .rt .non m
  | .raise c es, r, m => (evs g es r m).st fun ds m => .ex c ds m
  | .frz i, r, m => match r[i]? with | some (.own ds) => .nx (r.set i (.val (.lst ds))) m | _ => .bad
def evSs (g : Env0) (n : Nat) : Stms → List Slot → Mu → SRes
  | .nil, r, m => .nx r m
  | .cons s ss, r, m => match evS g n s r m with
    | .nx r m => evSs g n ss r m
    | o => o
end

/-- a def: how many slots, how many parameters, its body -/
structure Fn where
  many : Nat
  pars : Nat
  body : Stms
def startS (f : Fn) (ds : List D) : List Slot := ds.map .val ++ List.replicate (f.many - f.pars) .un
def endF : SRes → Res D
  | .rt d m => .ok d m
  | .nx _ m => .ok .non m
  | .ex c a m => .ex c a m
  | .bad => .bad
/-- the defs, k calls one in another; n turns of a while -/
def callF (fs : List Fn) (consts : List D) (n : Nat) : Nat → Nat → List D → Mu → Res D
  | 0, _, _, _ => .bad
  | k + 1, f, ds, m => match fs[f]? with
    | some fn => if ds.length = fn.pars then endF (evSs ⟨consts, callF fs consts n k⟩ n fn.body (startS fn ds) m) else .bad
    | none => .bad
end Mi

set_option linter.all false
set_option maxRecDepth 100000
/-! Mi3: whether a tree stands for a text. -/
namespace Mi
open PySem PySem.Spec PyProof.Rows L2

/-- the names: of the slots; of the defs; of the module's constants; of the classes -/
structure Cc where
  N : List Str
  fns : List Str
  gls : List Str
  cls : List Str
  /-- calls with keywords: the def, the positional arguments, the keywords' names, the parameters' places among them -/
  kws : List (Nat × Nat × List Str × List Nat) := []
def Exs.len : Exs → Nat
  | .nil => 0
  | .cons _ r => r.len + 1
def tgSlots : Tgt → List Nat
  | .nm i => [i]
  | .tp is => is
def tupT : Expr → Bool
  | .Tuple .. => true
  | _ => false
def okTg (own : List (Str × Nat)) (t : Tgt) (ik : IK) (e : Expr) : Bool := (tgSlots t).all (fun i => (own.map (·.2)).contains i) && (match ik with | .enum => tupT e | .zip => tupT e | _ => true)

def nmOk (x : Str) : Bool := !(x == ("__debug__" : Str)) && !(x == ("__classdict__" : Str)) && !(x == ("__name__" : Str))
def visB (sc : Scope) (x : Str) : Bool := match sc.names.lookup x with
  | some .local => true | some .cell => true | some .free => true | _ => false
def locB (sc : Scope) (x : Str) : Bool := match sc.names.lookup x with
  | some .local => true | some .cell => true | _ => false
def isLocal (sc : Scope) (x : Str) : Bool := match sc.names.lookup x with
  | some .local => true | _ => false
def glB (sc : Scope) (x : Str) : Bool := match sc.names.lookup x with
  | some .globalImplicit => nmOk x | _ => false
def B1.name : B1 → Str
  | .len => "len" | .all => "all" | .any => "any" | .sum => "sum" | .tuple => "tuple" | .list => "list" | .sorted => "sorted"
  | .abs => "abs" | .int => "int" | .str => "str" | .repr => "repr" | .max => "max" | .min => "min"
def B2.name : B2 → Str
  | .max => "max" | .min => "min" | .divmod => "divmod"
def M1.name : M1 → Str
  | .split => "split" | .join => "join" | .startswith => "startswith"
def Ty.name : Ty → Str
  | .int => "int" | .bool => "bool" | .str => "str" | .list => "list" | .tuple => "tuple" | .seq => "tuple"
def slotB (C : Cc) (i : Nat) (x : Str) : Bool := decide (C.N[i]? = some x)
def isGl (sc : Scope) (x : Str) : Expr → Bool
  | .Name y _ => decide (y = x) && glB sc y
  | _ => false
def okTy (sc : Scope) (t : Ty) : Expr → Bool
  | .Name y _ => (t != .seq) && decide (y = t.name) && glB sc y
  | .Tuple [.Name y _, .Name z _] _ _ => (t == .seq) && (decide (y = ("list" : Str)) && decide (z = ("tuple" : Str)) || decide (y = ("tuple" : Str)) && decide (z = ("list" : Str))) && glB sc y && glB sc z
  | _ => false
/-- a target within a block of the scope sc (its own names) -/
def okT (C : Cc) (sc : Scope) : Tgt → Expr → Bool
  | .nm i, .Name x _ => slotB C i x && locB sc x && nmOk x
  | .tp is, .Tuple ts _ _ => decide (is.length = ts.length) && (is.zip ts).all fun p => match p.2 with | .Name x _ => slotB C p.1 x && locB sc x && nmOk x | _ => false
  | _, _ => false
def noCall0 : Expr → Bool
  | .Call _ [] _ _ => false
  | _ => true
def kwNames (kws : List Keyword) : List (Option Str) := kws.map (·.arg)

/-- what is walked, by a word on the things of it -/
def okItB (sc : Scope) (ik : IK) (f : List Expr → Bool) (it : Expr) : Bool := match ik with
  | .seq => f [it]
  | .range1 => match it with | .Call (.Name x _) [a] [] _ => decide (x = ("range" : Str)) && glB sc x && f [a] | _ => false
  | .range2 => match it with | .Call (.Name x _) [a, b] [] _ => decide (x = ("range" : Str)) && glB sc x && f [a, b] | _ => false
  | .enum => match it with | .Call (.Name x _) [a] [] _ => decide (x = ("enumerate" : Str)) && glB sc x && f [a] | _ => false
  | .zip => match it with | .Call (.Name x _) [a, b] [] _ => decide (x = ("zip" : Str)) && glB sc x && f [a, b] | _ => false
/-- the inner one of a special form -/
def spArg (sc : Scope) : SpK → Expr → Option Expr
  | .lenSet, .Call (.Name x _) [.Call (.Name y _) [a] [] _] [] _ => if decide (x = ("len" : Str)) && decide (y = ("set" : Str)) && glB sc x && glB sc y then some a else none
  | .sortSet, .Call (.Name x _) [.Call (.Name y _) [a] [] _] [] _ => if decide (x = ("sorted" : Str)) && decide (y = ("set" : Str)) && glB sc x && glB sc y then some a else none
  | .listRange, .Call (.Name x _) [.Call (.Name y _) [a] [] _] [] _ => if decide (x = ("list" : Str)) && decide (y = ("range" : Str)) && glB sc x && glB sc y then some a else none
  | .tupRange, .Call (.Name x _) [.Call (.Name y _) [a] [] _] [] _ => if decide (x = ("tuple" : Str)) && decide (y = ("range" : Str)) && glB sc x && glB sc y then some a else none
  | .rev, .Subscript a (.Slice none none (some (.UnaryOp .USub (.Constant (.int 1) _ _) _)) _) _ => some a
  | _, _ => none
mutual
def okE (C : Cc) (sc : Scope) : Ex → Expr → Bool
  | .cst c, e => match e with | .Constant c' _ _ => decide (c = c') && okC c | _ => false
  | .var i, e => match e with | .Name x _ => slotB C i x && visB sc x && nmOk x | _ => false
  | .view i, e => match e with | .Name x _ => slotB C i x && visB sc x && nmOk x | _ => false
  | .glb i, e => match e with | .Name x _ => decide (C.gls[i]? = some x) && glB sc x | _ => false
  | .tup es, e => match e with | .Tuple as _ _ => decide (es.len ≤ 100) && okEs C sc es as | _ => false
  | .lst es, e => match e with | .List as _ => decide (es.len ≤ 100) && okEs C sc es as | _ => false
  | .op o a b, e => match e with | .BinOp x p y _ => decide (o = p) && okE C sc a x && okE C sc b y | _ => false
  | .neg a, e => match e with | .UnaryOp .USub x _ => okE C sc a x | _ => false
  | .not a, e => match e with | .UnaryOp .Not x _ => okE C sc a x | _ => false
  | .cmp o a b, e => match e with | .Compare x [p] [y] _ => decide (o = p) && okE C sc a x && okE C sc b y | _ => false
  | .cmp2 o p a b c, e => match e with | .Compare x [q, r] [y, z] _ => decide (o = q) && decide (p = r) && okE C sc a x && okE C sc b y && okE C sc c z | _ => false
  | .and es, e => match e with | .BoolOp .And as _ => okEs C sc es as | _ => false
  | .or es, e => match e with | .BoolOp .Or as _ => okEs C sc es as | _ => false
  | .ite c a b, e => match e with | .IfExp x y z _ => okE C sc c x && okE C sc a y && okE C sc b z | _ => false
  | .call f es, e => match e with | .Call (.Name x _) as [] _ => decide (C.fns[f]? = some x) && glB sc x && okEs C sc es as | _ => false
  | .callk f es ks ord es2, e => match e with
    | .Call (.Name x _) as kws _ => decide (C.fns[f]? = some x) && glB sc x && okEs C sc es as && decide (kwNames kws = ks.map some) && okEs C sc es2 (kws.map (·.value)) && decide ((f, es.len, ks, ord) ∈ C.kws)
    | _ => false
  | .b1 b a, e => match e with | .Call (.Name x _) [y] [] _ => decide (x = b.name) && glB sc x && okE C sc a y | _ => false
  | .b2 b a c, e => match e with | .Call (.Name x _) [y, z] [] _ => decide (x = b.name) && glB sc x && okE C sc a y && okE C sc c z | _ => false
  | .max3 a b c, e => match e with | .Call (.Name x _) [y, z, w] [] _ => decide (x = ("max" : Str)) && glB sc x && okE C sc a y && okE C sc b z && okE C sc c w | _ => false
  | .isa t a, e => match e with | .Call (.Name x _) [y, z] [] _ => decide (x = ("isinstance" : Str)) && glB sc x && okE C sc a y && okTy sc t z | _ => false
  | .m1 k a b, e => match e with
    | .Call (.Attribute x n ap) [y] [] pos => decide (n = k.name) && (ap.endLine == pos.line) && noCall0 x && okE C sc a x && okE C sc b y
    | _ => false
  | .idx a i, e => match e with | .Subscript x y _ => okE C sc a x && okE C sc i y | _ => false
  | .slB a i j, e => match e with | .Subscript x (.Slice (some y) (some z) none _) _ => okE C sc a x && okE C sc i y && okE C sc j z | _ => false
  | .slL a i, e => match e with | .Subscript x (.Slice (some y) none none _) _ => okE C sc a x && okE C sc i y | _ => false
  | .slH a i, e => match e with | .Subscript x (.Slice none (some y) none _) _ => okE C sc a x && okE C sc i y | _ => false
  | .dic0, e => match e with | .Dict [] [] _ => true | _ => false
  | .sp k a, e => match spArg sc k e with | some y => okE C sc a y | none => false
  | .comp own elt tg ik its, e => match e with
    | .ListComp x [⟨t, it, [], 0⟩] scope _ => blkC C.N sc scope own && okTg own tg ik t && okE C (relS scope sc) elt x && okT C scope tg t && okItB sc ik (fun as => okEs C sc its as) it
    | _ => false
  | .compIf own elt tg ik its c, e => match e with
    | .ListComp x [⟨t, it, [y], 0⟩] scope _ => blkC C.N sc scope own && okTg own tg ik t && okE C (relS scope sc) elt x && okE C (relS scope sc) c y && okT C scope tg t && okItB sc ik (fun as => okEs C sc its as) it
    | _ => false
def okEs (C : Cc) (sc : Scope) : Exs → List Expr → Bool
  | .nil, l => match l with | [] => true | _ => false
  | .cons e es, l => match l with | x :: xs => okE C sc e x && okEs C sc es xs | [] => false
end
def okIt (C : Cc) (sc : Scope) (ik : IK) (its : Exs) (it : Expr) : Bool := okItB sc ik (fun as => okEs C sc its as) it
end Mi

set_option linter.all false
set_option maxRecDepth 100000
/-! Mi4: how values lie in the heap. -/
namespace Mi
open PySem PySem.Spec PyProof.Rows L2

/-- the script's list: known to the object, or one of the module's own -/
def ScL (K : PySem.W.Frag) (H : Hp) (a : Addr) (xs : List V) : Prop := (∃ o, H a = some (.frz o (.lst xs))) ∨
    ∃ (o : Obj) (its : Array Value) (n : Nat), K.lookup a = some o ∧ o.cls = .type "list" ∧ o.dict = none ∧ o.data = .seq its n ∧ its.size ≤ sizeLine ∧ Vals xs its.toList
theorem ScL.sq {K : PySem.W.Frag} {H : Hp} {a : Addr} {xs : List V} (h : ScL K H a xs) : SqL K H a xs := h.elim (fun q => .inl (.inr q)) .inr
mutual
/-- d lies at v; B: the places that may be changed some day (no list of d stands there); G: the places of the store's lists -/
inductive Rp (K : PySem.W.Frag) (B : Addr → Prop) (G : List Addr) (H : Hp) : D → V → Prop
  | non : Rp K B G H .non .non
  | bl (b : Bool) : Rp K B G H (.bl b) (.bl b)
  | int (i : Int) : Rp K B G H (.int i) (.int i)
  | str (x : Str) : Rp K B G H (.str x) (.str x)
  | lst {a : Addr} {xs : List V} {ds : List D} : ¬ B a → H a = some (.lst xs) → Rps K B G H ds xs → Rp K B G H (.lst ds) (.ref a)
  | tup {a : Addr} {xs : List V} {ds : List D} : SqT K H a xs → Rps K B G H ds xs → Rp K B G H (.tup ds) (.ref a)
  | ref {n : Nat} {a : Addr} : G[n]? = some a → Rp K B G H (.ref n) (.ref a)
  | scr {a : Addr} {is : List Int} : ScL K H a (is.map V.int) → Rp K B G H (.scr is) (.ref a)
  | dic {a : Addr} {ks : List L2.Key} {xs : List V} {ds : List D} : H a = some (.dK (ks.zip xs)) → ks.length = xs.length → Rps K B G H ds xs → Rp K B G H (.dic ks ds) (.ref a)
inductive Rps (K : PySem.W.Frag) (B : Addr → Prop) (G : List Addr) (H : Hp) : List D → List V → Prop
  | nil : Rps K B G H [] []
  | cons {d : D} {ds : List D} {v : V} {vs : List V} : Rp K B G H d v → Rps K B G H ds vs → Rps K B G H (d :: ds) (v :: vs)
end

section
variable {K : PySem.W.Frag} {B B' : Addr → Prop} {G G' : List Addr} {H H' : Hp}

/-- all but lists is kept -/
def KeepN (H H' : Hp) : Prop := ∀ a o, H a = some o → (∀ xs, o ≠ .lst xs) → H' a = some o
theorem KeepN.sc (hk : KeepN H H') {a : Addr} {xs : List V} (h : ScL K H a xs) : ScL K H' a xs := h.elim (fun ⟨o, q⟩ => .inl ⟨o, hk _ _ q fun _ z => nomatch z⟩) .inr
theorem KeepN.sq (hk : KeepN H H') {a : Addr} {xs : List V} (h : SqT K H a xs) : SqT K H' a xs := by
  rcases h with (h | ⟨o, h⟩) | h
  · exact .inl (.inl (hk _ _ h fun _ z => nomatch z))
  · exact .inl (.inr ⟨o, hk _ _ h fun _ z => nomatch z⟩)
  · exact .inr h
theorem KeepN.of (s : Same H H') : KeepN H H' := fun a o h _ => s _ _ h
theorem KeepN.refl : KeepN H H := fun a o h _ => h
mutual
theorem Rp.move (hl : ∀ a xs, ¬ B a → H a = some (.lst xs) → ¬ B' a ∧ H' a = some (.lst xs)) (hk : KeepN H H') (hg : ∀ (n : Nat) (a : Addr), G[n]? = some a → G'[n]? = some a) :
    ∀ {d : D} {v : V}, Rp K B G H d v → Rp K B' G' H' d v
  | _, _, .non => .non
  | _, _, .bl b => .bl b
  | _, _, .int i => .int i
  | _, _, .str x => .str x
  | _, _, .lst h1 h2 h3 => .lst (hl _ _ h1 h2).1 (hl _ _ h1 h2).2 (Rps.move hl hk hg h3)
  | _, _, .tup h1 h2 => .tup (hk.sq h1) (Rps.move hl hk hg h2)
  | _, _, .ref h => .ref (hg _ _ h)
  | _, _, .scr h => .scr (hk.sc h)
  | _, _, .dic h1 h2 h3 => .dic (hk _ _ h1 fun _ z => nomatch z) h2 (Rps.move hl hk hg h3)
theorem Rps.move (hl : ∀ a xs, ¬ B a → H a = some (.lst xs) → ¬ B' a ∧ H' a = some (.lst xs)) (hk : KeepN H H') (hg : ∀ (n : Nat) (a : Addr), G[n]? = some a → G'[n]? = some a) :
    ∀ {ds : List D} {vs : List V}, Rps K B G H ds vs → Rps K B' G' H' ds vs
  | _, _, .nil => .nil
  | _, _, .cons h1 h2 => .cons (Rp.move hl hk hg h1) (Rps.move hl hk hg h2)
end

theorem Rps.length : ∀ {ds : List D} {vs : List V}, Rps K B G H ds vs → ds.length = vs.length
  | _, _, .nil => rfl
  | _, _, .cons _ t => by rw [List.length_cons, List.length_cons, Rps.length t]
theorem Rps.get : ∀ {ds : List D} {vs : List V} {i : Nat} {d : D}, Rps K B G H ds vs → ds[i]? = some d → ∃ v, vs[i]? = some v ∧ Rp K B G H d v
  | _, _, _, _, .nil, e => by simp at e
  | _, _, 0, _, .cons r _, e => by
    simp at e
    subst e
    exact ⟨_, rfl, r⟩
  | _, _, i + 1, d, .cons _ t, e => by
    obtain ⟨v, h1, h2⟩ := Rps.get (i := i) (d := d) t (by simpa using e)
    exact ⟨v, by simpa using h1, h2⟩
theorem Rps.append : ∀ {ds es : List D} {vs ws : List V}, Rps K B G H ds vs → Rps K B G H es ws → Rps K B G H (ds ++ es) (vs ++ ws)
  | _, _, _, _, .nil, s => s
  | _, _, _, _, .cons r t, s => .cons r (Rps.append t s)
theorem Rps.take : ∀ {ds : List D} {vs : List V} (n : Nat), Rps K B G H ds vs → Rps K B G H (ds.take n) (vs.take n)
  | _, _, 0, _ => .nil
  | _, _, _ + 1, .nil => .nil
  | _, _, n + 1, .cons r t => .cons r (Rps.take n t)
theorem Rps.drop : ∀ {ds : List D} {vs : List V} (n : Nat), Rps K B G H ds vs → Rps K B G H (ds.drop n) (vs.drop n)
  | _, _, 0, r => r
  | _, _, _ + 1, .nil => .nil
  | _, _, n + 1, .cons _ t => Rps.drop n t
theorem Rps.set {d : D} {v : V} (r : Rp K B G H d v) : ∀ {ds : List D} {vs : List V} (i : Nat), Rps K B G H ds vs → Rps K B G H (ds.set i d) (vs.set i v)
  | _, _, _, .nil => .nil
  | _, _, 0, .cons _ t => .cons r t
  | _, _, i + 1, .cons q t => .cons q (Rps.set r i t)
theorem Rps.cut {ds : List D} {vs : List V} (r : Rps K B G H ds vs) (lo hi : Option Int) : Rps K B G H (cutL ds lo hi) (cutV vs lo hi) := by
  unfold cutL cutV
  rw [r.length]
  exact (r.drop _).take _
theorem Rps.atI {ds : List D} {vs : List V} {i : Int} {d : D} (r : Rps K B G H ds vs) (h : atI ds i = some d) : ∃ v, L2.atI vs i = some v ∧ Rp K B G H d v := by
  unfold L2.atI at h ⊢
  rw [← r.length]
  cases e : ixN ds.length i with
  | none =>
    rw [e] at h
    cases h
  | some j =>
    rw [e] at h
    exact r.get h
theorem Rps.repl {ds : List D} {vs : List V} (r : Rps K B G H ds vs) : ∀ n : Nat, Rps K B G H (List.replicate n ds).flatten (List.replicate n vs).flatten
  | 0 => .nil
  | n + 1 => by
    rw [List.replicate_succ, List.replicate_succ, List.flatten_cons, List.flatten_cons]
    exact r.append (Rps.repl r n)

end
/-- all that was there stands as it stood -/
theorem Rp.same {K : PySem.W.Frag} {B : Addr → Prop} {G : List Addr} {H H' : Hp} (s : Same H H') {d : D} {v : V} (r : Rp K B G H d v) : Rp K B G H' d v :=
  Rp.move (fun a xs n h => ⟨n, s _ _ h⟩) (.of s) (fun _ _ h => h) r
theorem Rps.same {K : PySem.W.Frag} {B : Addr → Prop} {G : List Addr} {H H' : Hp} (s : Same H H') {d : List D} {v : List V} (r : Rps K B G H d v) : Rps K B G H' d v :=
  Rps.move (fun a xs n h => ⟨n, s _ _ h⟩) (.of s) (fun _ _ h => h) r
theorem same_upd {H : Hp} {p : Addr} {o : HO} (h : H p = none) : Same H (upd H p o) := fun b x e => by
  rw [upd_ne (ne_of_none e h)]
  exact e

/-- the tree's places: what the callers hold, the def's own lists, the store's lists; ρ and m lie so at σ and H -/
def Bad (M : Addr → Prop) (O : Nat → Option Addr) (G : List Addr) (a : Addr) : Prop := M a ∨ a ∈ G ∨ ∃ i, O i = some a
structure Rep (K : PySem.W.Frag) (M : Addr → Prop) (O : Nat → Option Addr) (G : List Addr) (σ : L2.St) (H : Hp) (r : List Slot) (m : Mu) : Prop where
  dom : ∀ a, M a → H a ≠ none
  len : r.length = σ.length
  val : ∀ (i : Nat) (d : D), r[i]? = some (.val d) → ∃ v, σ[i]? = some (some v) ∧ Rp K (Bad M O G) G H d v
  own : ∀ (i : Nat) (ds : List D), r[i]? = some (.own ds) → ∃ a xs, O i = some a ∧ σ[i]? = some (some (.ref a)) ∧ H a = some (.lst xs) ∧ Rps K (Bad M O G) G H ds xs
  ownU : ∀ i j a, O i = some a → O j = some a → i = j
  ownH : ∀ i a, O i = some a → (∃ xs, H a = some (.lst xs)) ∧ ¬ M a ∧ a ∉ G
  st : ∀ (n : Nat) ds, m[n]? = some ds → ∃ a xs, G[n]? = some a ∧ H a = some (.lst xs) ∧ Rps K (Bad M O G) G H ds xs
  stl : G.length = m.length
  stU : G.Nodup
  stM : ∀ a ∈ G, ¬ M a

/-- what an expression (a call) does to the heap: all but the store's lists stands as it stood; the store may grow -/
structure Grow (G : List Addr) (H : Hp) (G' : List Addr) (H' : Hp) : Prop where
  keep : ∀ a o, H a = some o → a ∉ G → H' a = some o ∧ a ∉ G'
  pre : ∀ (n : Nat) a, G[n]? = some a → G'[n]? = some a
theorem Grow.refl (G : List Addr) (H : Hp) : Grow G H G H := ⟨fun _ _ h n => ⟨h, n⟩, fun _ _ h => h⟩
theorem Grow.trans {G G1 G2 : List Addr} {H H1 H2 : Hp} (a : Grow G H G1 H1) (b : Grow G1 H1 G2 H2) : Grow G H G2 H2 :=
  ⟨fun c o h n => let ⟨h1, n1⟩ := a.keep c o h n; b.keep c o h1 n1, fun n c h => b.pre n c (a.pre n c h)⟩
theorem Grow.same {G : List Addr} {H H' : Hp} (s : Same H H') : Grow G H G H' := ⟨fun _ _ h n => ⟨s _ _ h, n⟩, fun _ _ h => h⟩

section
variable {K : PySem.W.Frag} {M : Addr → Prop} {O : Nat → Option Addr} {G G' : List Addr} {σ : L2.St} {H H' : Hp} {r : List Slot} {m : Mu}
theorem Rep.lst (R : Rep K M O G σ H r m) {a : Addr} (h : a ∈ G) : ∃ xs, H a = some (.lst xs) := by
  obtain ⟨n, hn, e⟩ := List.getElem_of_mem h
  have hm : n < m.length := by rw [← R.stl]; exact hn
  obtain ⟨b, xs, e1, e2, _⟩ := R.st n m[n] (List.getElem?_eq_getElem hm)
  rw [List.getElem?_eq_getElem hn, e] at e1
  cases e1
  exact ⟨xs, e2⟩
theorem Rep.bad (R : Rep K M O G σ H r m) {a : Addr} (h : Bad M O G a) : H a ≠ none := by
  rcases h with h | h | ⟨i, h⟩
  · exact R.dom a h
  · obtain ⟨xs, e⟩ := R.lst h
    rw [e]
    exact fun z => nomatch z
  · obtain ⟨⟨xs, e⟩, _⟩ := R.ownH i a h
    rw [e]
    exact fun z => nomatch z
theorem Rep.new (R : Rep K M O G σ H r m) {a : Addr} (h : H a = none) : ¬ Bad M O G a := fun z => R.bad z h
theorem Rep.kn (R : Rep K M O G σ H r m) (g : Grow G H G' H') : KeepN H H' := fun a o h n => (g.keep a _ h fun z => by
  obtain ⟨ys, e⟩ := R.lst z
  rw [h] at e
  cases e
  exact n ys rfl).1
theorem Rep.rd (R : Rep K M O G σ H r m) (g : Grow G H G' H') {a : Addr} {xs : List V} (hb : ¬ Bad M O G a) (h : H a = some (.lst xs)) : ¬ Bad M O G' a ∧ H' a = some (.lst xs) := by
  obtain ⟨h1, h2⟩ := g.keep a _ h fun z => hb (.inr (.inl z))
  exact ⟨fun z => z.elim (fun q => hb (.inl q)) fun z => z.elim h2 fun q => hb (.inr (.inr q)), h1⟩
theorem Rep.rp (R : Rep K M O G σ H r m) (g : Grow G H G' H') {d : D} {v : V} (h : Rp K (Bad M O G) G H d v) : Rp K (Bad M O G') G' H' d v :=
  Rp.move (fun a xs n q => R.rd g n q) (R.kn g) g.pre h
theorem Rep.rps (R : Rep K M O G σ H r m) (g : Grow G H G' H') {d : List D} {v : List V} (h : Rps K (Bad M O G) G H d v) : Rps K (Bad M O G') G' H' d v :=
  Rps.move (fun a xs n q => R.rd g n q) (R.kn g) g.pre h
/-- the heap has grown, the store is as it was -/
theorem Rep.same (R : Rep K M O G σ H r m) (s : Same H H') : Rep K M O G σ H' r m where
  dom := fun a h z => R.dom a h (s.free z)
  len := R.len
  val := fun i d h => let ⟨v, h1, h2⟩ := R.val i d h; ⟨v, h1, h2.same s⟩
  own := fun i ds h => let ⟨a, xs, h1, h2, h3, h4⟩ := R.own i ds h; ⟨a, xs, h1, h2, s _ _ h3, h4.same s⟩
  ownU := R.ownU
  ownH := fun i a h => let ⟨⟨xs, h1⟩, h2⟩ := R.ownH i a h; ⟨⟨xs, s _ _ h1⟩, h2⟩
  st := fun n ds h => let ⟨a, xs, h1, h2, h3⟩ := R.st n ds h; ⟨a, xs, h1, s _ _ h2, h3.same s⟩
  stl := R.stl
  stU := R.stU
  stM := R.stM
end

/-- the store alone: at a call, at its end -/
abbrev RepF (K : PySem.W.Frag) (M : Addr → Prop) (G : List Addr) (H : Hp) (m : Mu) : Prop := Rep K M (fun _ => none) G [] H [] m
abbrev BadF (M : Addr → Prop) (G : List Addr) : Addr → Prop := Bad M (fun _ => none) G
/-- what a def must leave alone of its caller's -/
def Held (M : Addr → Prop) (O : Nat → Option Addr) (a : Addr) : Prop := M a ∨ ∃ i, O i = some a
section
variable {K : PySem.W.Frag} {M : Addr → Prop} {O : Nat → Option Addr} {G G' : List Addr} {σ : L2.St} {H H' : Hp} {r : List Slot} {m m' : Mu}
theorem bad_held {a : Addr} : BadF (Held M O) G a ↔ Bad M O G a := by
  constructor
  · rintro ((h | h) | h | ⟨i, h⟩)
    · exact .inl h
    · exact .inr (.inr h)
    · exact .inr (.inl h)
    · cases h
  · rintro (h | h | h)
    · exact .inl (.inl h)
    · exact .inr (.inl h)
    · exact .inl (.inr h)
theorem bad_held' : BadF (Held M O) G = Bad M O G := funext fun _ => propext bad_held
/-- to the callee -/
theorem Rep.down (R : Rep K M O G σ H r m) : RepF K (Held M O) G H m where
  dom := fun a h => h.elim (R.dom a) fun ⟨i, e⟩ z => by
    obtain ⟨⟨xs, q⟩, _⟩ := R.ownH i a e
    rw [z] at q
    cases q
  len := rfl
  val := fun i d h => by simp at h
  own := fun i d h => by simp at h
  ownU := fun i j a h => by cases h
  ownH := fun i a h => by cases h
  st := fun n ds h => let ⟨a, xs, h1, h2, h3⟩ := R.st n ds h; ⟨a, xs, h1, h2, by
    show Rps K (BadF (Held M O) G) G H ds xs
    rw [bad_held']
    exact h3⟩
  stl := R.stl
  stU := R.stU
  stM := fun a h z => z.elim (R.stM a h) fun ⟨i, e⟩ => (R.ownH i a e).2.2 h
/-- back from the callee -/
theorem Rep.up (R : Rep K M O G σ H r m) (g : Grow G H G' H') (F : RepF K (Held M O) G' H' m') : Rep K M O G' σ H' r m' where
  dom := fun a h => F.dom a (.inl h)
  len := R.len
  val := fun i d h => let ⟨v, h1, h2⟩ := R.val i d h; ⟨v, h1, R.rp g h2⟩
  own := fun i ds h => let ⟨a, xs, h1, h2, h3, h4⟩ := R.own i ds h; ⟨a, xs, h1, h2, (g.keep a _ h3 (R.ownH i a h1).2.2).1, R.rps g h4⟩
  ownU := R.ownU
  ownH := fun i a h => let ⟨⟨xs, h1⟩, h2, h3⟩ := R.ownH i a h; ⟨⟨xs, (g.keep a _ h1 h3).1⟩, h2, (g.keep a _ h1 h3).2⟩
  st := fun n ds h => let ⟨a, xs, h1, h2, h3⟩ := F.st n ds h; ⟨a, xs, h1, h2, by
    have h3 : Rps K (BadF (Held M O) G') G' H' ds xs := h3
    rw [bad_held'] at h3
    exact h3⟩
  stl := F.stl
  stU := F.stU
  stM := fun a h z => F.stM a h (.inl z)
end
end Mi

set_option linter.all false
set_option maxRecDepth 100000
set_option maxHeartbeats 4000000
/-! Mi5: what the operations do to values. -/
namespace Mi
open PySem PySem.Spec PyProof.Rows L2

/-- .. or an own list, which is only looked at -/
def Rw (K : PySem.W.Frag) (B : Addr → Prop) (G : List Addr) (H : Hp) (d : D) (v : V) : Prop :=
  Rp K B G H d v ∨ ∃ ds a xs, d = .lst ds ∧ v = .ref a ∧ H a = some (.lst xs) ∧ Rps K B G H ds xs ∧ a ∉ G
/-- what is written may be changed by others stands in the heap -/
def Fr (B : Addr → Prop) (H : Hp) : Prop := ∀ a, B a → H a ≠ none
/-- the wished value: the heap has grown -/
def Fits (K : PySem.W.Frag) (B : Addr → Prop) (G : List Addr) (H : Hp) (o : Option D) (Q : VK) : Prop :=
  ∃ d, o = some d ∧ ∀ v H', Same H H' → Rp K B G H' d v → Q v H'

section
variable {K : PySem.W.Frag} {B : Addr → Prop} {G : List Addr} {H H' : Hp} {d : D} {v : V}
theorem Rw.of (h : Rp K B G H d v) : Rw K B G H d v := .inl h
theorem Rw.lst {ds : List D} (h : Rw K B G H (.lst ds) v) : ∃ a xs, v = .ref a ∧ H a = some (.lst xs) ∧ Rps K B G H ds xs := by
  rcases h with h | ⟨es, a, xs, e, rfl, h1, h2, _⟩
  · cases h with
    | lst h1 h2 h3 => exact ⟨_, _, rfl, h2, h3⟩
  · cases e
    exact ⟨_, _, rfl, h1, h2⟩
theorem Rw.rp (h : Rw K B G H d v) (n : ∀ ds, d ≠ .lst ds) : Rp K B G H d v := by
  rcases h with h | ⟨es, a, xs, e, _⟩
  · exact h
  · exact absurd e (n es)
theorem Rw.int {i : Int} (h : Rw K B G H (.int i) v) : v = .int i := by
  cases h.rp (fun _ z => nomatch z)
  rfl
theorem Rw.bl {i : Bool} (h : Rw K B G H (.bl i) v) : v = .bl i := by
  cases h.rp (fun _ z => nomatch z)
  rfl
theorem Rw.str {i : Str} (h : Rw K B G H (.str i) v) : v = .str i := by
  cases h.rp (fun _ z => nomatch z)
  rfl
theorem Rw.non (h : Rw K B G H .non v) : v = .non := by
  cases h.rp (fun _ z => nomatch z)
  rfl
theorem Rw.tup {ds : List D} (h : Rw K B G H (.tup ds) v) : ∃ a xs, v = .ref a ∧ SqT K H a xs ∧ Rps K B G H ds xs := by
  cases h.rp (fun _ z => nomatch z) with
  | tup h1 h2 => exact ⟨_, _, rfl, h1, h2⟩
theorem Rw.same (s : Same H H') (h : Rw K B G H d v) : Rw K B G H' d v := by
  rcases h with h | ⟨ds, a, xs, e, e2, h1, h2, h3⟩
  · exact .inl (h.same s)
  · exact .inr ⟨ds, a, xs, e, e2, s _ _ h1, h2.same s, h3⟩
theorem Fr.same (s : Same H H') (f : Fr B H) : Fr B H' := fun a h z => f a h (s.free z)
theorem Fr.new (f : Fr B H) {a : Addr} (h : H a = none) : ¬ B a := fun z => f a z h
/-- a new list, a new tuple -/
theorem Rp.newL (f : Fr B H) {p : Addr} (hp : H p = none) {ds : List D} {xs : List V} (r : Rps K B G H ds xs) : Rp K B G (upd H p (.lst xs)) (.lst ds) (.ref p) :=
  .lst (f.new hp) upd_same (r.same (same_upd hp))
theorem Rp.newT {p : Addr} (hp : H p = none) {ds : List D} {xs : List V} (r : Rps K B G H ds xs) : Rp K B G (upd H p (.tup xs)) (.tup ds) (.ref p) :=
  .tup (SqT.of upd_same) (r.same (same_upd hp))
theorem ints_of : ∀ {ds : List D} {is : List Int} {xs : List V}, ints? ds = some is → Rps K B G H ds xs → xs = is.map V.int
  | [], is, xs, e, r => by
    cases r
    cases e
    rfl
  | d :: ds, is, xs, e, r => by
    cases r with
    | cons r1 r2 =>
      cases d with
      | int i =>
        unfold ints? at e
        cases q : ints? ds with
        | none =>
          rw [q] at e
          cases e
        | some l =>
          rw [q] at e
          cases e
          cases r1
          rw [ints_of q r2]
          rfl
      | _ => cases e
theorem bls_of : ∀ {ds : List D} {is : List Bool} {xs : List V}, bls? ds = some is → Rps K B G H ds xs → xs = is.map V.bl
  | [], is, xs, e, r => by
    cases r
    cases e
    rfl
  | d :: ds, is, xs, e, r => by
    cases r with
    | cons r1 r2 =>
      cases d with
      | bl i =>
        unfold bls? at e
        cases q : bls? ds with
        | none =>
          rw [q] at e
          cases e
        | some l =>
          rw [q] at e
          cases e
          cases r1
          rw [bls_of q r2]
          rfl
      | _ => cases e
theorem strs_of : ∀ {ds : List D} {is : List Str} {xs : List V}, strs? ds = some is → Rps K B G H ds xs → xs = is.map V.str
  | [], is, xs, e, r => by
    cases r
    cases e
    rfl
  | d :: ds, is, xs, e, r => by
    cases r with
    | cons r1 r2 =>
      cases d with
      | str i =>
        unfold strs? at e
        cases q : strs? ds with
        | none =>
          rw [q] at e
          cases e
        | some l =>
          rw [q] at e
          cases e
          cases r1
          rw [strs_of q r2]
          rfl
      | _ => cases e
theorem rps_ints : ∀ is : List Int, Rps K B G H (is.map D.int) (is.map V.int)
  | [] => .nil
  | i :: r => .cons (.int i) (rps_ints r)
theorem rps_strs : ∀ is : List Str, Rps K B G H (is.map D.str) (is.map V.str)
  | [] => .nil
  | i :: r => .cons (.str i) (rps_strs r)
end
theorem fit_le {n : Nat} (h : fit n = true) : n ≤ sizeLine := by
  have := of_decide_eq_true h
  rw [sizeLine_eq]
  exact this

section
variable {X : Cx} {B : Addr → Prop} {G : List Addr}
def r2 (K : PySem.W.Frag) (B : Addr → Prop) (G : List Addr) (f : D → D → Option D) : R2 := fun x y H Q =>
  ∃ dx dy, Rw K B G H dx x ∧ Rw K B G H dy y ∧ Fr B H ∧ Fits K B G H (f dx dy) Q
def r1 (K : PySem.W.Frag) (B : Addr → Prop) (G : List Addr) (f : D → Option D) : V → Hp → VK → Prop := fun x H Q =>
  ∃ dx, Rw K B G H dx x ∧ Fr B H ∧ Fits K B G H (f dx) Q

theorem bin_sound (o : Operator) : OpR X (binaryOp o) (r2 X.K B G (binop o)) := by
  intro pins s σ H x y v u Q I rx ry h
  obtain ⟨dx, dy, hx, hy, fr, d, e, q⟩ := h
  unfold binop at e
  split at e
  · cases e
    rw [hx.int] at rx
    rw [hy.int] at ry
    exact op_add pins s σ H _ _ v u Q I rx ry ⟨_, _, rfl, rfl, q _ _ (Same.refl H) (.int _)⟩
  · split at e
    · rename_i hf
      cases e
      rw [hx.str] at rx
      rw [hy.str] at ry
      exact op_add_str pins s σ H _ _ v u Q I rx ry ⟨_, _, rfl, rfl, fit_le hf, q _ _ (Same.refl H) (.str _)⟩
    · cases e
  · split at e
    · rename_i hf
      cases e
      obtain ⟨a, xs, rfl, h1, h2⟩ := hx.lst
      obtain ⟨b, ys, rfl, h3, h4⟩ := hy.lst
      exact op_cat pins s σ H _ _ v u Q I rx ry ⟨_, _, _, _, rfl, rfl, h1, h3, by rw [← h2.length, ← h4.length]; exact fit_le hf, fun p hp => q _ _ (same_upd hp) (Rp.newL fr hp (h2.append h4))⟩
    · cases e
  · split at e
    · rename_i hf
      cases e
      obtain ⟨a, xs, rfl, h1, h2⟩ := hx.tup
      obtain ⟨b, ys, rfl, h3, h4⟩ := hy.tup
      refine op_catA pins s σ H _ _ v u Q I rx ry ⟨_, _, _, _, rfl, rfl, h1, h3, by rw [← h2.length, ← h4.length]; exact fit_le hf, fun e1 => ?_, fun _ e2 => ?_, fun _ _ p hp => q _ _ (same_upd hp) (Rp.newT hp (h2.append h4))⟩
      · subst e1
        cases h2
        exact q _ _ (Same.refl H) (.tup h3 h4)
      · subst e2
        cases h4
        rw [List.append_nil] at q
        exact q _ _ (Same.refl H) (.tup h1 h2)
    · cases e
  · cases e
    rw [hx.int] at rx
    rw [hy.int] at ry
    exact op_sub pins s σ H _ _ v u Q I rx ry ⟨_, _, rfl, rfl, q _ _ (Same.refl H) (.int _)⟩
  · split at e
    · rename_i hf
      cases e
      rw [hx.int] at rx
      rw [hy.int] at ry
      have h0 := of_decide_eq_true hf
      exact op_mulW pins s σ H _ _ v u Q I rx ry ⟨_, _, rfl, rfl, h0, q _ _ (Same.refl H) (.int _)⟩
    · cases e
  · split at e
    · rename_i hf
      cases e
      simp only [Bool.and_eq_true, decide_eq_true_eq] at hf
      obtain ⟨a, xs, rfl, h1, h2⟩ := hx.lst
      rw [hy.int] at ry
      exact op_rep pins s σ H _ _ v u Q I rx ry ⟨_, _, _, rfl, rfl, h1, by omega, by omega, by rw [← h2.length]; exact fit_le hf.2, fun p hp => q _ _ (same_upd hp) (Rp.newL fr hp (h2.repl _))⟩
    · cases e
  · split at e
    · rename_i hf
      cases e
      rw [hx.int] at rx
      rw [hy.int] at ry
      have h0 := of_decide_eq_true hf
      exact op_fdivW pins s σ H _ _ v u Q I rx ry ⟨_, _, rfl, rfl, h0, q _ _ (Same.refl H) (.int _)⟩
    · cases e
  · split at e
    · rename_i hf
      cases e
      rw [hx.int] at rx
      rw [hy.int] at ry
      exact op_mod pins s σ H _ _ v u Q I rx ry ⟨_, _, rfl, rfl, of_decide_eq_true hf, q _ _ (Same.refl H) (.int _)⟩
    · cases e
  · split at e
    · rename_i hf
      cases e
      rw [hx.int] at rx
      rw [hy.int] at ry
      have h0 := of_decide_eq_true hf
      exact op_pow pins s σ H _ _ v u Q I rx ry ⟨_, _, rfl, rfl, ⟨h0.1, h0.2.1, Nat.lt_of_lt_of_le h0.2.2 (by decide)⟩, q _ _ (Same.refl H) (.int _)⟩
    · cases e
  · cases e
theorem neg_sound : UnR X (unaryOp .USub) (r1 X.K B G negop) := by
  intro pins s σ H x v Q I rx h
  obtain ⟨dx, hx, fr, d, e, q⟩ := h
  unfold negop at e
  split at e
  · cases e
    rw [hx.int] at rx
    exact un_neg pins s σ H _ v Q I rx ⟨_, rfl, q _ _ (Same.refl H) (.int _)⟩
  · cases e

/-- data to the library's reading -/
theorem keys_read {P : Program} {w : World} {h : Heap} : ∀ {ks : List L2.Key} {xs : List V} {vs : List (L2.Key × Value)} {es : List DictEntry}, ks.length = xs.length → KV (ks.zip xs) vs → Pairs (mixKind P w) es vs →
    ReadsAll h (es.map (·.key)) (ks.map keyP) [] ∧ Vals xs (es.map (·.val))
  | [], [], _, _, _, kv, ps => by
    cases kv
    cases ps
    exact ⟨.nil, .nil⟩
  | k :: ks, x :: xs, _, _, hl, kv, ps => by
    cases kv with
    | cons a r =>
      cases ps with
      | @cons de _ _ _ h1 h2 h3 =>
        obtain ⟨i1, i2⟩ := keys_read (h := h) (by simpa using hl) r h3
        obtain ⟨a1, a2⟩ := a
        refine ⟨?_, .cons (by have a3 := a2; rw [← h2] at a3; exact a3) i2⟩
        have : Reads h de.key (keyP k) [] := by
          have h1 : keyIs _ _ = true := h1
          rw [← a1] at h1
          rcases keyIs_shape h1 with ⟨i, t, rfl, e⟩ | ⟨i, t, rfl, e⟩
          · rw [e]
            exact .int i t
          · rw [e]
            exact .str i t
        exact ReadsAll.cons (as := []) this i1
  | [], _ :: _, _, _, hl, _, _ => by cases hl
  | _ :: _, [], _, _, hl, _, _ => by cases hl
def NoSm (X : Cx) (as : List Addr) : Prop := (∃ mm, X.base.Ns sysModules mm) → sysModules ∉ as
theorem lst_sm {pins : List (Addr × Obj)} {s : Shared} {σ : L2.St} {H : Hp} (I : Inv X pins σ H s) {a : Addr} {o : Obj} {vs : Array Value} {n : Nat} (h : s.heap.get? a = some o) (d : o.data = .seq vs n) : (∃ mm, X.base.Ns sysModules mm) → sysModules ≠ a := fun ⟨mm, o2, es, ep, e, d2, _⟩ z => by
  have := I.bk _ _ e
  rw [z, h] at this
  cases this
  rw [d] at d2
  cases d2
mutual
theorem Rp.reads {pins : List (Addr × Obj)} {s : Shared} {σ : L2.St} {H : Hp} (I : Inv X pins σ H s) : ∀ (d : D) {v : V} {u : Value} {p : PyData}, Rp X.K B G H d v → d.py = some p → RelV v u → ∃ as, Reads s.heap u p as ∧ NoSm X as
  | .non, v, u, p, r, e, q => by
    cases r
    cases e
    cases q
    exact ⟨_, .none, fun _ => List.not_mem_nil⟩
  | .bl b, v, u, p, r, e, q => by
    cases r
    cases e
    cases q
    exact ⟨_, .bool b, fun _ => List.not_mem_nil⟩
  | .int i, v, u, p, r, e, q => by
    cases r
    cases e
    obtain ⟨t, rfl⟩ := q
    exact ⟨_, .int i t, fun _ => List.not_mem_nil⟩
  | .str x, v, u, p, r, e, q => by
    cases r
    cases e
    obtain ⟨t, rfl⟩ := q
    exact ⟨_, .str x t, fun _ => List.not_mem_nil⟩
  | .lst ds, v, u, p, r, e, q => by
    cases r with
    | lst h1 h2 h3 =>
      unfold D.py at e
      cases q1 : pys ds with
      | none =>
        rw [q1] at e
        cases e
      | some ys =>
        rw [q1] at e
        cases e
        cases q
        obtain ⟨its, rv, ⟨o, n, ho, hc, _, hd⟩, _⟩ := I.list (SqL.of h2)
        obtain ⟨as, hr, hs⟩ := Rps.reads I ds h3 q1 rv
        refine ⟨_, Reads.list ho hc hd hr, fun z y => ?_⟩
        rcases List.mem_cons.mp y with y | y
        · exact lst_sm I ho hd z y
        · exact hs z y
  | .tup ds, v, u, p, r, e, q => by
    cases r with
    | tup h1 h3 =>
      unfold D.py at e
      cases q1 : pys ds with
      | none =>
        rw [q1] at e
        cases e
      | some ys =>
        rw [q1] at e
        cases e
        cases q
        obtain ⟨its, rv, ⟨o, ho, hc, n, hd⟩, _⟩ := I.tuple h1
        obtain ⟨as, hr, hs⟩ := Rps.reads I ds h3 q1 rv
        exact ⟨_, Reads.tuple ho hc hd hr, hs⟩
  | .dic ks ds, v, u, p, r, e, q => by
    cases r with
    | dic h1 h2 h3 =>
      unfold D.py at e
      cases q1 : pys ds with
      | none =>
        rw [q1] at e
        cases e
      | some ys =>
        rw [q1] at e
        dsimp only at e
        split at e
        · rename_i hl
          cases e
          cases q
          obtain ⟨_, hm, vs, kv, o, es, ep, ho, ⟨hc, _, _⟩, hd, _, ps, _⟩ := dk_of I.hok h1
          obtain ⟨k1, k2⟩ := keys_read (h := s.heap) h2 kv ps
          obtain ⟨bs, hr, hs⟩ := Rps.reads I ds h3 q1 k2
          have e1 : ((ks.map keyP).zip ys).map (·.1) = ks.map keyP := List.map_fst_zip (by rw [List.length_map, hl]; exact Nat.le_refl _)
          have e2 : ((ks.map keyP).zip ys).map (·.2) = ys := List.map_snd_zip (by rw [List.length_map, hl]; exact Nat.le_refl _)
          refine ⟨_, Reads.dict (as := []) (bs := bs) ho hc hd (by rw [e1]; exact k1) (by rw [e2]; exact hr), fun z y => ?_⟩
          simp only [List.cons_append, List.nil_append] at y
          rcases List.mem_cons.mp y with y | y
          · rw [← y] at hm
            simp at hm
          · exact hs z y
        · cases e
  | .ref n, v, u, p, r, e, q => by
    unfold D.py at e
    cases e
  | .scr n, v, u, p, r, e, q => by
    unfold D.py at e
    cases e
theorem Rps.reads {pins : List (Addr × Obj)} {s : Shared} {σ : L2.St} {H : Hp} (I : Inv X pins σ H s) : ∀ (ds : List D) {vs : List V} {us : List Value} {ps : List PyData}, Rps X.K B G H ds vs → pys ds = some ps → Vals vs us → ∃ as, ReadsAll s.heap us ps as ∧ NoSm X as
  | [], vs, us, ps, r, e, q => by
    cases r
    cases e
    cases q
    exact ⟨_, .nil, fun _ => List.not_mem_nil⟩
  | d :: ds, vs, us, ps, r, e, q => by
    cases r with
    | cons r1 r2 =>
      unfold pys at e
      cases q1 : d.py with
      | none =>
        rw [q1] at e
        cases e
      | some a =>
        cases q2 : pys ds with
        | none =>
          rw [q1, q2] at e
          cases e
        | some b =>
          rw [q1, q2] at e
          cases e
          cases q with
          | cons v1 v2 =>
            obtain ⟨as, a1, a2⟩ := Rp.reads I d r1 q1 v1
            obtain ⟨bs, b1, b2⟩ := Rps.reads I ds r2 q2 v2
            exact ⟨_, .cons a1 b1, fun z y => (List.mem_append.mp y).elim (a2 z) (b2 z)⟩
end
theorem reads_sm {pins : List (Addr × Obj)} {s : Shared} {σ : L2.St} {H : Hp} {d : D} {p : PyData} {x : V} {v : Value} (I : Inv X pins σ H s) (h : Rw X.K B G H d x) (e : d.py = some p) (r : RelV x v) : ∃ as, Reads s.heap v p as ∧ NoSm X as := by
  rcases h with h | ⟨ds, a, xs, rfl, rfl, h1, h2, _⟩
  · exact Rp.reads I d h e r
  · unfold D.py at e
    cases q1 : pys ds with
    | none =>
      rw [q1] at e
      cases e
    | some ys =>
      rw [q1] at e
      cases e
      cases r
      obtain ⟨its, rv, ⟨o, n, ho, hc, _, hd⟩, _⟩ := I.list (SqL.of h1)
      obtain ⟨as, hr, hs⟩ := Rps.reads I ds h2 q1 rv
      refine ⟨_, Reads.list ho hc hd hr, fun z y => ?_⟩
      rcases List.mem_cons.mp y with y | y
      · exact lst_sm I ho hd z y
      · exact hs z y
theorem reads_of {pins : List (Addr × Obj)} {s : Shared} {σ : L2.St} {H : Hp} {d : D} {p : PyData} {x : V} {v : Value} (I : Inv X pins σ H s) (h : Rw X.K B G H d x) (e : d.py = some p) (r : RelV x v) : ∃ as, Reads s.heap v p as :=
  let ⟨as, h, _⟩ := reads_sm I h e r
  ⟨as, h⟩
theorem small_min {p q : PyData} (h : small p = true) : min p.depth q.depth ≤ 40 := Nat.le_trans (Nat.min_le_left _ _) (of_decide_eq_true h)

def rB2 (K : PySem.W.Frag) (B : Addr → Prop) (G : List Addr) (f : D → D → Option Bool) : R2 := fun x y H Q =>
  ∃ dx dy, Rw K B G H dx x ∧ Rw K B G H dy y ∧ ∃ b, f dx dy = some b ∧ Q (.bl b) H
theorem eqD_inv {a b : D} {k : Bool} (e : eqD a b = some k) : ∃ p q, a.py = some p ∧ b.py = some q ∧ small p = true ∧ p.plain = true ∧ q.plain = true ∧ k = PyData.eqv p q := by
  unfold eqD at e
  split at e
  · rename_i p1 p2 e1 e2
    split at e
    · rename_i hs
      simp only [Bool.and_eq_true] at hs
      cases e
      exact ⟨_, _, e1, e2, hs.1.1.1, hs.1.2, hs.2, rfl⟩
    · cases e
  · cases e
theorem eq_sound (hu : X.A.units + 64 < cLine) : OpR X (compareOp .Eq) (rB2 X.K B G eqD) := by
  intro pins s σ H x y v u Q I rx ry h
  obtain ⟨dx, dy, hx, hy, b, e, q⟩ := h
  obtain ⟨p1, p2, e1, e2, hs, pl1, pl2, rfl⟩ := eqD_inv e
  obtain ⟨as, a1⟩ := reads_of I hx e1 rx
  obtain ⟨bs, a2⟩ := reads_of I hy e2 ry
  have := small_min (q := p2) hs
  exact SeqAt.eq_plain a1 a2 pl1 pl2 (by omega) ⟨.bl _, H, I, rfl, q⟩
theorem map_not {o : Option Bool} {b : Bool} (h : o.map not = some b) : o = some (!b) := by
  cases o with
  | none => cases h
  | some c =>
    cases h
    rw [Bool.not_not]
theorem ne_sound (hu : X.A.units + 64 < cLine) : OpR X (compareOp .NotEq) (rB2 X.K B G fun a b => (eqD a b).map not) := by
  intro pins s σ H x y v u Q I rx ry h
  obtain ⟨dx, dy, hx, hy, b, e, q⟩ := h
  obtain ⟨p1, p2, e1, e2, hs, pl1, pl2, h3⟩ := eqD_inv (map_not e)
  obtain ⟨as, a1⟩ := reads_of I hx e1 rx
  obtain ⟨bs, a2⟩ := reads_of I hy e2 ry
  have := small_min (q := p2) hs
  refine SeqAt.ne_plain a1 a2 pl1 pl2 (by omega) ⟨.bl b, H, I, ?_, q⟩
  rw [← h3, Bool.not_not]
  rfl
theorem small_all {p : PyData} {qs : List PyData} (h : small p = true) : min (PyData.depthAll qs) p.depth ≤ 40 := Nat.le_trans (Nat.min_le_right _ _) (of_decide_eq_true h)
/-- what in asks -/
theorem inD_inv {a c : D} {k : Bool} (e : inD a c = some k) : (∃ x y, a = .str x ∧ c = .str y ∧ k = !(Builtin.Str.occurrences y x 0 y.length 1).isEmpty) ∨
    ∃ p qs cs, a.py = some p ∧ pys cs = some qs ∧ (c = .lst cs ∨ c = .tup cs) ∧ small p = true ∧ p.plain = true ∧ PyData.plainAll qs = true ∧ k = qs.any fun q => PyData.eqv q p := by
  unfold inD at e
  split at e
  · cases e
    exact .inl ⟨_, _, rfl, rfl, rfl⟩
  · split at e
    · rename_i p qs e1 e2
      split at e
      · rename_i hs
        cases e
        simp only [Bool.and_eq_true] at hs
        exact .inr ⟨_, _, _, e1, e2, .inl rfl, hs.1.1, hs.1.2, hs.2, rfl⟩
      · cases e
    · cases e
  · split at e
    · rename_i p qs e1 e2
      split at e
      · rename_i hs
        cases e
        simp only [Bool.and_eq_true] at hs
        exact .inr ⟨_, _, _, e1, e2, .inr rfl, hs.1.1, hs.1.2, hs.2, rfl⟩
      · cases e
    · cases e
  · cases e
theorem pyL {cs : List D} {qs : List PyData} (h : pys cs = some qs) : (D.lst cs).py = some (.list qs) := by
  unfold D.py
  rw [h]
theorem pyT {cs : List D} {qs : List PyData} (h : pys cs = some qs) : (D.tup cs).py = some (.tuple qs) := by
  unfold D.py
  rw [h]
theorem in_sound (hu : X.A.units + 64 < cLine) : OpR X (compareOp .In) (rB2 X.K B G inD) := by
  intro pins s σ H x y v u Q I rx ry h
  obtain ⟨dx, dy, hx, hy, b, e, q⟩ := h
  rcases inD_inv e with ⟨i, j, rfl, rfl, rfl⟩ | ⟨p, qs, cs, e1, e2, e3, hs, pl1, pl2, rfl⟩
  · rw [hx.str] at rx
    rw [hy.str] at ry
    exact op_in_str pins s σ H _ _ v u Q I rx ry ⟨_, _, rfl, rfl, q⟩
  · obtain ⟨as, a1⟩ := reads_of I hx e1 rx
    have := small_all (qs := qs) hs
    rcases e3 with rfl | rfl
    · obtain ⟨bs, a2⟩ := reads_of I hy (pyL e2) ry
      exact SeqAt.in_list_data a2 a1 pl2 pl1 (by omega) ⟨.bl _, H, I, rfl, q⟩
    · obtain ⟨bs, a2⟩ := reads_of I hy (pyT e2) ry
      exact SeqAt.in_tuple_data a2 a1 pl2 pl1 (by omega) ⟨.bl _, H, I, rfl, q⟩
theorem notin_sound (hu : X.A.units + 64 < cLine) : OpR X (compareOp .NotIn) (rB2 X.K B G fun a b => (inD a b).map not) := by
  intro pins s σ H x y v u Q I rx ry h
  obtain ⟨dx, dy, hx, hy, b, e, q⟩ := h
  rcases inD_inv (map_not e) with ⟨i, j, rfl, rfl, h3⟩ | ⟨p, qs, cs, e1, e2, e3, hs, pl1, pl2, h3⟩
  · rw [hx.str] at rx
    rw [hy.str] at ry
    refine op_notIn_str pins s σ H _ _ v u Q I rx ry ⟨_, _, rfl, rfl, ?_⟩
    rw [← h3, Bool.not_not]
    exact q
  · obtain ⟨as, a1⟩ := reads_of I hx e1 rx
    have := small_all (qs := qs) hs
    rcases e3 with rfl | rfl
    · obtain ⟨bs, a2⟩ := reads_of I hy (pyL e2) ry
      refine SeqAt.notIn_list_data a2 a1 pl2 pl1 (by omega) ⟨.bl b, H, I, ?_, q⟩
      rw [← h3, Bool.not_not]
      rfl
    · obtain ⟨bs, a2⟩ := reads_of I hy (pyT e2) ry
      refine SeqAt.notIn_tuple_data a2 a1 pl2 pl1 (by omega) ⟨.bl b, H, I, ?_, q⟩
      rw [← h3, Bool.not_not]
      rfl
theorem isN_of {K : PySem.W.Frag} {B : Addr → Prop} {G : List Addr} {H : Hp} {d : D} {x : V} (h : Rw K B G H d x) : decide (x = V.non) = isNon d := by
  rcases h with h | ⟨ds, a, xs, rfl, rfl, _⟩
  · cases h <;> rfl
  · rfl
/-- a comparison -/
theorem cmp_sound (hu : X.A.units + 64 < cLine) (o : CmpOp) : OpR X (compareOp o) (rB2 X.K B G (cmpop o)) := by
  intro pins s σ H x y v u Q I rx ry h
  obtain ⟨dx, dy, hx, hy, b, e, q⟩ := h
  unfold cmpop at e
  split at e
  · exact eq_sound hu pins s σ H x y v u Q I rx ry ⟨_, _, hx, hy, b, e, q⟩
  · exact ne_sound hu pins s σ H x y v u Q I rx ry ⟨_, _, hx, hy, b, e, q⟩
  · cases e
    rw [hx.int] at rx
    rw [hy.int] at ry
    exact op_lt pins s σ H _ _ v u Q I rx ry ⟨_, _, rfl, rfl, q⟩
  · cases e
    rw [hx.int] at rx
    rw [hy.int] at ry
    exact op_le pins s σ H _ _ v u Q I rx ry ⟨_, _, rfl, rfl, q⟩
  · cases e
    rw [hx.int] at rx
    rw [hy.int] at ry
    exact op_gt pins s σ H _ _ v u Q I rx ry ⟨_, _, rfl, rfl, q⟩
  · cases e
    rw [hx.int] at rx
    rw [hy.int] at ry
    exact op_ge pins s σ H _ _ v u Q I rx ry ⟨_, _, rfl, rfl, q⟩
  · have hn := isN_of hx
    rw [hy.non] at ry
    refine op_isN pins s σ H _ _ v u Q I rx ry ⟨rfl, ?_⟩
    rw [hn]
    have e' := Option.some.inj e
    rw [← e'] at q
    exact q
  · have hn := isN_of hx
    rw [hy.non] at ry
    refine op_notN pins s σ H _ _ v u Q I rx ry ⟨rfl, ?_⟩
    rw [hn]
    have e' := Option.some.inj e
    rw [← e'] at q
    exact q
  · exact in_sound hu pins s σ H x y v u Q I rx ry ⟨_, _, hx, hy, b, e, q⟩
  · exact notin_sound hu pins s σ H x y v u Q I rx ry ⟨_, _, hx, hy, b, e, q⟩
  · cases e
end
end Mi

set_option linter.all false
set_option maxRecDepth 100000
set_option maxHeartbeats 4000000
/-! Mi6: what the built-in functions do to values. -/
namespace Mi
open PySem PySem.Spec PyProof.Rows L2

section
variable {X : Cx} {B : Addr → Prop} {G : List Addr}
/-- a call with one value -/
def rc1 (K : PySem.W.Frag) (B : Addr → Prop) (G : List Addr) (f : D → Option D) : List V → Hp → VK → Prop := fun xs H Q =>
  ∃ dx x, xs = [x] ∧ Rw K B G H dx x ∧ Fr B H ∧ Fits K B G H (f dx) Q
def rc2 (K : PySem.W.Frag) (B : Addr → Prop) (G : List Addr) (f : D → D → Option D) : List V → Hp → VK → Prop := fun xs H Q =>
  ∃ dx dy x y, xs = [x, y] ∧ Rw K B G H dx x ∧ Rw K B G H dy y ∧ Fr B H ∧ Fits K B G H (f dx dy) Q
def rc3 (K : PySem.W.Frag) (B : Addr → Prop) (G : List Addr) (f : D → D → D → Option D) : List V → Hp → VK → Prop := fun xs H Q =>
  ∃ dx dy dz x y z, xs = [x, y, z] ∧ Rw K B G H dx x ∧ Rw K B G H dy y ∧ Rw K B G H dz z ∧ Fr B H ∧ Fits K B G H (f dx dy dz) Q

theorem repr_sound (sm : ∃ mm, X.base.Ns sysModules mm) (hg : X.A.guards = some []) (hu : X.A.units + 64 < cLine) : CallR X (.builtin "repr") (rc1 X.K B G (b1op .repr)) := by
  intro pins s σ H xs us Q I r h
  obtain ⟨dx, x, rfl, hx, fr, d, e, q⟩ := h
  obtain ⟨u, rfl, ru⟩ := r.one
  unfold b1op at e
  simp only at e
  split at e
  · rename_i p ep
    split at e
    · rename_i hs
      cases e
      rw [Bool.and_eq_true, Bool.and_eq_true] at hs
      obtain ⟨⟨h1, h2⟩, h3⟩ := hs
      have hd : p.depth ≤ 40 := of_decide_eq_true h1
      obtain ⟨as, ra, nsm⟩ := reads_sm I hx ep ru
      have fin : ∀ (h' : Heap) (u : Tok) (tk : Nat), (∀ b o, s.heap.get? b = some o → h'.get? b = some o) → EP X pins σ Q (.str p.shown u) { s with heap := h', toks := tk } :=
        fun h' u tk k => ⟨.str p.shown, H, I.kept k, ⟨u, rfl⟩, q _ _ (Same.refl H) (.str _)⟩
      cases ra with
      | none =>
        unfold PyData.shown at fin
        exact PySem.P.repr_of_none (fin s.heap _ _ fun _ _ k => k)
      | bool b =>
        unfold PyData.shown at fin
        exact PySem.P.repr_of_bool (fin s.heap _ _ fun _ _ k => k)
      | int i t =>
        unfold PyData.shown at fin
        exact PySem.P.repr_of_int (of_decide_eq_true h2) (fin s.heap _ _ fun _ _ k => k)
      | str z t =>
        unfold PyData.shown at fin h3
        exact PySem.P.repr_of_str (fin s.heap _ _ fun _ _ k => k) (fit_le h3)
      | list a1 a2 a3 a4 => exact repr_of_reads' (.list a1 a2 a3 a4) h2 (fun _ => nsm sm) hg (by omega) (fun _ _ k => k) fin (fit_le h3)
      | tuple a1 a2 a3 a4 => exact repr_of_reads' (.tuple a1 a2 a3 a4) h2 (fun _ => nsm sm) hg (by omega) (fun _ _ k => k) fin (fit_le h3)
      | dict a1 a2 a3 a4 a5 => exact repr_of_reads' (.dict a1 a2 a3 a4 a5) h2 (fun _ => nsm sm) hg (by omega) (fun _ _ k => k) fin (fit_le h3)
    · cases e
  · cases e

def b1val : B1 → Value
  | .len => .builtin "len" | .all => .builtin "all" | .any => .builtin "any" | .sum => .builtin "sum" | .tuple => .type "tuple" | .list => .type "list"
  | .sorted => .builtin "sorted" | .abs => .builtin "abs" | .int => .type "int" | .str => .type "str" | .repr => .builtin "repr" | .max => .builtin "max" | .min => .builtin "min"
theorem b1_sound (sm : ∃ mm, X.base.Ns sysModules mm) (hc : X.calm = true) (hg : X.A.guards = some []) (hu : X.A.units + 64 < cLine) (b : B1) : CallR X (b1val b) (rc1 X.K B G (b1op b)) := by
  intro pins s σ H xs us Q I r h
  obtain ⟨dx, x, rfl, hx, fr, d, e, q⟩ := h
  unfold b1op at e
  split at e
  · cases e
    obtain ⟨a, ys, rfl, h1, h2⟩ := hx.lst
    refine call_len_seq pins s σ H _ us Q I r ⟨a, ys, rfl, .inl (SqL.of h1), ?_⟩
    rw [← h2.length]
    exact q _ _ (Same.refl H) (.int _)
  · cases e
    obtain ⟨a, ys, rfl, h1, h2⟩ := hx.tup
    refine call_len_seq pins s σ H _ us Q I r ⟨a, ys, rfl, .inr h1, ?_⟩
    rw [← h2.length]
    exact q _ _ (Same.refl H) (.int _)
  · cases e
    cases hx.rp (fun _ z => nomatch z) with
    | scr h1 =>
      refine call_len_seq pins s σ H _ us Q I r ⟨_, _, rfl, .inl h1.sq, ?_⟩
      rw [List.length_map]
      exact q _ _ (Same.refl H) (.int _)
  · split at e
    · rename_i hf
      cases e
      rw [hx.str] at r
      exact call_len_str pins s σ H _ us Q I r ⟨_, rfl, fit_le hf, q _ _ (Same.refl H) (.int _)⟩
    · cases e
  · split at e
    · rename_i bs hb
      cases e
      obtain ⟨a, ys, rfl, h1, h2⟩ := hx.lst
      rw [bls_of hb h2] at h1
      exact cr_all hc pins s σ H _ us Q I r ⟨a, bs, rfl, SqL.of h1, q _ _ (Same.refl H) (.bl _)⟩
    · cases e
  · split at e
    · rename_i bs hb
      cases e
      obtain ⟨a, ys, rfl, h1, h2⟩ := hx.lst
      rw [bls_of hb h2] at h1
      exact cr_any hc pins s σ H _ us Q I r ⟨a, bs, rfl, SqL.of h1, q _ _ (Same.refl H) (.bl _)⟩
    · cases e
  · split at e
    · rename_i bs hb
      cases e
      obtain ⟨a, ys, rfl, h1, h2⟩ := hx.lst
      rw [ints_of hb h2] at h1
      exact cr_sum hc pins s σ H _ us Q I r ⟨a, bs, rfl, SqL.of h1, q _ _ (Same.refl H) (.int _)⟩
    · cases e
  · cases e
    obtain ⟨a, ys, rfl, h1, h2⟩ := hx.lst
    exact call_tuple_of pins s σ H _ us Q I r ⟨a, ys, rfl, .inl ⟨SqL.of h1, fun p hp => q _ _ (same_upd hp) (Rp.newT hp h2)⟩⟩
  · cases e
    obtain ⟨a, ys, rfl, h1, h2⟩ := hx.tup
    exact call_tuple_of pins s σ H _ us Q I r ⟨a, ys, rfl, .inr ⟨h1, q _ _ (Same.refl H) (.tup h1 h2)⟩⟩
  · cases e
    obtain ⟨a, ys, rfl, h1, h2⟩ := hx.lst
    exact call_list_of pins s σ H _ us Q I r ⟨a, ys, rfl, .inl (SqL.of h1), fun p hp => q _ _ (same_upd hp) (Rp.newL fr hp h2)⟩
  · cases e
    obtain ⟨a, ys, rfl, h1, h2⟩ := hx.tup
    exact call_list_of pins s σ H _ us Q I r ⟨a, ys, rfl, .inr h1, fun p hp => q _ _ (same_upd hp) (Rp.newL fr hp h2)⟩
  · cases e
    rw [hx.int] at r
    exact call_abs pins s σ H _ us Q I r ⟨_, rfl, q _ _ (Same.refl H) (.int _)⟩
  · cases e
    rw [hx.int] at r
    exact call_int1 pins s σ H _ us Q I r (.inl ⟨_, rfl, q _ _ (Same.refl H) (.int _)⟩)
  · cases e
    rw [hx.bl] at r
    exact call_int1 pins s σ H _ us Q I r (.inr ⟨_, rfl, q _ _ (Same.refl H) (.int _)⟩)
  · split at e
    · rename_i hf
      rw [hx.str] at r
      rename_i z
      cases hz : intText? z with
      | none =>
        rw [hz] at e
        cases e
      | some n =>
        rw [hz] at e
        cases e
        exact call_int_str pins s σ H _ us Q I r ⟨_, n, rfl, hz, of_decide_eq_true hf, q _ _ (Same.refl H) (.int _)⟩
    · cases e
  · split at e
    · rename_i hf
      cases e
      rw [hx.int] at r
      exact call_str_int pins s σ H _ us Q I r ⟨_, rfl, of_decide_eq_true hf, q _ _ (Same.refl H) (.str _)⟩
    · cases e
  · cases e
    rw [hx.str] at r
    obtain ⟨u, rfl, t, rfl⟩ := r.one
    exact PySem.P.str_of_str ⟨.str _, H, I, ⟨t, rfl⟩, q _ _ (Same.refl H) (.str _)⟩
  · split at e
    · rename_i is hb
      cases e
      obtain ⟨a, ys, rfl, h1, h2⟩ := hx.lst
      rw [ints_of hb h2] at h1
      exact cr_sortedI pins s σ H _ us Q I r ⟨a, is, rfl, SqL.of h1, fun ns' p hp hs hq => by
        rw [sort_is hp hs]
        exact q _ _ (same_upd hq) (Rp.newL fr hq (rps_ints _))⟩
    · cases e
  · split at e
    · rename_i is hb
      cases e
      obtain ⟨a, ys, rfl, h1, h2⟩ := hx.tup
      rw [ints_of hb h2] at h1
      exact cr_sortedIT pins s σ H _ us Q I r ⟨a, is, rfl, h1, fun ns' p hp hs hq => by
        rw [sort_is hp hs]
        exact q _ _ (same_upd hq) (Rp.newL fr hq (rps_ints _))⟩
    · cases e
  · split at e
    · rename_i is hb
      obtain ⟨a, ys, rfl, h1, h2⟩ := hx.lst
      rw [ints_of hb h2] at h1
      cases is with
      | nil => cases e
      | cons i is =>
        cases e
        refine cr_max hc pins s σ H _ us Q I r ⟨a, _, rfl, SqL.of h1, Nat.succ_pos _, fun m hm hy => ?_⟩
        obtain ⟨f1, f2⟩ := foldMax is i
        have := hy _ f1
        have := f2 _ hm
        have em : m = is.foldl (fun m y => if y > m then y else m) i := by omega
        rw [em]
        exact q _ _ (Same.refl H) (.int _)
    · cases e
  · split at e
    · rename_i is hb
      obtain ⟨a, ys, rfl, h1, h2⟩ := hx.lst
      rw [ints_of hb h2] at h1
      cases is with
      | nil => cases e
      | cons i is =>
        cases e
        refine cr_min hc pins s σ H _ us Q I r ⟨a, _, rfl, SqL.of h1, Nat.succ_pos _, fun m hm hy => ?_⟩
        obtain ⟨f1, f2⟩ := foldMin is i
        have := hy _ f1
        have := f2 _ hm
        have em : m = is.foldl (fun m y => if y < m then y else m) i := by omega
        rw [em]
        exact q _ _ (Same.refl H) (.int _)
    · cases e
  · exact repr_sound sm hg hu pins s σ H _ us Q I r ⟨_, _, rfl, hx, fr, d, e, q⟩
  · cases e

def b2val : B2 → Value
  | .max => .builtin "max" | .min => .builtin "min" | .divmod => .builtin "divmod"
theorem b2_sound (hc : X.calm = true) (b : B2) : CallR X (b2val b) (rc2 X.K B G (b2op b)) := by
  intro pins s σ H xs us Q I r h
  obtain ⟨dx, dy, x, y, rfl, hx, hy, fr, d, e, q⟩ := h
  unfold b2op at e
  split at e
  · cases e
    rw [hx.int, hy.int] at r
    exact call_max2 hc pins s σ H _ us Q I r ⟨_, _, rfl, q _ _ (Same.refl H) (.int _)⟩
  · cases e
    rw [hx.int, hy.int] at r
    exact call_min2 hc pins s σ H _ us Q I r ⟨_, _, rfl, q _ _ (Same.refl H) (.int _)⟩
  · split at e
    · rename_i hf
      cases e
      rw [hx.int, hy.int] at r
      have h0 := of_decide_eq_true hf
      exact call_divmod pins s σ H _ us Q I r ⟨_, _, rfl, h0, fun p hp => q _ _ (same_upd hp) (Rp.newT hp (.cons (.int _) (.cons (.int _) .nil)))⟩
    · cases e
  · cases e

/-- the type's name -/
def tyD : D → Option String
  | .dic _ _ => some "dict"
  | .non => some "NoneType" | .bl _ => some "bool" | .int _ => some "int" | .str _ => some "str" | .lst _ => some "list" | .tup _ => some "tuple"
  | .ref _ => none | .scr _ => none
theorem tyx_of {K : PySem.W.Frag} {H : Hp} {d : D} {x : V} {t : String} (h : Rw K B G H d x) (e : tyD d = some t) : TyX K H x (.type t) := by
  cases d with
  | non =>
    cases e
    rw [h.non]
    exact .base .non
  | bl b =>
    cases e
    rw [h.bl]
    exact .base (.bl b)
  | int b =>
    cases e
    rw [h.int]
    exact .base (.int b)
  | str b =>
    cases e
    rw [h.str]
    exact .base (.str b)
  | lst ds =>
    cases e
    obtain ⟨a, xs, rfl, h1, _⟩ := h.lst
    exact .base (.lst h1)
  | tup ds =>
    cases e
    obtain ⟨a, xs, rfl, h1, _⟩ := h.tup
    rcases h1 with (h1 | ⟨o, h1⟩) | ⟨o, its, n, h1, h2, _⟩
    · exact .base (.tup h1)
    · exact .fTuple h1
    · exact .kTuple h1 h2
  | dic ks ds =>
    cases e
    cases h.rp (fun _ z => nomatch z) with
    | dic h1 _ _ => exact .base (.dK h1)
  | ref n => cases e
  | scr n => cases e
def Ty.py : Ty → String
  | .int => "int" | .bool => "bool" | .str => "str" | .list => "list" | .tuple => "tuple" | .seq => "tuple"
theorem kit_isa {K : PySem.W.Frag} {d : D} {t : Ty} {b : Bool} {n : String} (ht : t ≠ .seq) (h : isaD t d = some b) (e : tyD d = some n) : PySem.W.kitOne K (.type n) (.type t.py) = some b := by
  cases d <;> cases e <;> cases t <;> first | exact absurd rfl ht | (cases h; exact kit_ty (by decide +kernel))
theorem kit_two {K : PySem.W.Frag} {n : String} {b1 b2 : Bool} (h1 : kitB n "list" = some b1) (h2 : kitB n "tuple" = some b2) : PySem.W.kitAny K (.type n) [.type "list", .type "tuple"] = some (b1 || b2) := by
  refine kitAny_cons (b := b1) (kit_ty h1) (fun e => ?_) fun e => by rw [e]; rfl
  subst e
  refine kitAny_cons (b := b2) (kit_ty h2) (fun e => ?_) fun e => by rw [e]; rfl
  subst e
  exact kitAny_nil
theorem kit_seq {K : PySem.W.Frag} {d : D} {b : Bool} {n : String} (h : isaD .seq d = some b) (e : tyD d = some n) : PySem.W.kitAny K (.type n) [.type "list", .type "tuple"] = some b := by
  cases d <;> cases e <;> cases h
  · exact kit_two (b1 := false) (b2 := false) (by decide +kernel) (by decide +kernel)
  · exact kit_two (b1 := false) (b2 := false) (by decide +kernel) (by decide +kernel)
  · exact kit_two (b1 := false) (b2 := false) (by decide +kernel) (by decide +kernel)
  · exact kit_two (b1 := false) (b2 := false) (by decide +kernel) (by decide +kernel)
  · exact kit_two (b1 := true) (b2 := false) (by decide +kernel) (by decide +kernel)
  · exact kit_two (b1 := false) (b2 := true) (by decide +kernel) (by decide +kernel)
  · exact kit_two (b1 := false) (b2 := false) (by decide +kernel) (by decide +kernel)
theorem kit_two2 {K : PySem.W.Frag} {n : String} {b1 b2 : Bool} (h1 : kitB n "tuple" = some b1) (h2 : kitB n "list" = some b2) : PySem.W.kitAny K (.type n) [.type "tuple", .type "list"] = some (b1 || b2) := by
  refine kitAny_cons (b := b1) (kit_ty h1) (fun e => ?_) fun e => by rw [e]; rfl
  subst e
  refine kitAny_cons (b := b2) (kit_ty h2) (fun e => ?_) fun e => by rw [e]; rfl
  subst e
  exact kitAny_nil
theorem kit_seq2 {K : PySem.W.Frag} {d : D} {b : Bool} {n : String} (h : isaD .seq d = some b) (e : tyD d = some n) : PySem.W.kitAny K (.type n) [.type "tuple", .type "list"] = some b := by
  cases d <;> cases e <;> cases h
  · exact kit_two2 (b1 := false) (b2 := false) (by decide +kernel) (by decide +kernel)
  · exact kit_two2 (b1 := false) (b2 := false) (by decide +kernel) (by decide +kernel)
  · exact kit_two2 (b1 := false) (b2 := false) (by decide +kernel) (by decide +kernel)
  · exact kit_two2 (b1 := false) (b2 := false) (by decide +kernel) (by decide +kernel)
  · exact kit_two2 (b1 := false) (b2 := true) (by decide +kernel) (by decide +kernel)
  · exact kit_two2 (b1 := true) (b2 := false) (by decide +kernel) (by decide +kernel)
  · exact kit_two2 (b1 := false) (b2 := false) (by decide +kernel) (by decide +kernel)
theorem isa_ty {d : D} {t : Ty} {b : Bool} (h : isaD t d = some b) : ∃ n, tyD d = some n := by
  cases d <;> first | exact ⟨_, rfl⟩ | cases h
theorem max3_sound (hc : X.calm = true) : CallR X (.builtin "max") (rc3 X.K B G max3D) := by
  intro pins s σ H xs us Q I r h
  obtain ⟨dx, dy, dz, x, y, z, rfl, hx, hy, hz, fr, d, e, q⟩ := h
  unfold max3D at e
  split at e
  · cases e
    rw [hx.int, hy.int, hz.int] at r
    cases r with
    | cons ra r =>
      cases r with
      | cons rb r =>
        cases r with
        | cons rc r =>
          cases r
          obtain ⟨t1, rfl⟩ := ra
          obtain ⟨t2, rfl⟩ := rb
          obtain ⟨t3, rfl⟩ := rc
          refine PySem.max_three_ints (I.ok.hd hc) fun h' tk k => ⟨.int _, H, I.kept k, ?_, q _ _ (Same.refl H) (.int _)⟩
          split <;> split <;> exact ⟨_, rfl⟩
  · cases e
/-- a method of a text -/
def rm1 (K : PySem.W.Frag) (B : Addr → Prop) (G : List Addr) (f : D → D → Option D) : V → List V → Hp → VK → Prop := fun x xs H Q =>
  ∃ dx dy y, xs = [y] ∧ Rw K B G H dx x ∧ Rw K B G H dy y ∧ Fr B H ∧ Fits K B G H (f dx dy) Q
theorem split_sound : MtR X "str.split" (rm1 X.K B G splitD) := by
  intro pins s σ H x xs v us Q I rx rs h
  obtain ⟨dx, dy, y, rfl, hx, hy, fr, d, e, q⟩ := h
  unfold splitD at e
  split at e
  · split at e
    · rename_i hf
      cases e
      rw [Bool.and_eq_true, Bool.not_eq_true'] at hf
      rw [hx.str] at rx
      rw [hy.str] at rs
      exact mt_split pins s σ H _ _ v us Q I rx rs ⟨_, _, rfl, rfl, hf.1, fit_le hf.2, fun p hp => q _ _ (same_upd hp) (Rp.newL fr hp (rps_strs _))⟩
    · cases e
  · cases e
theorem join_sound : MtR X "str.join" (rm1 X.K B G joinD) := by
  intro pins s σ H x xs v us Q I rx rs h
  obtain ⟨dx, dy, y, rfl, hx, hy, fr, d, e, q⟩ := h
  unfold joinD at e
  split at e
  · split at e
    · rename_i ys hs
      split at e
      · rename_i hf
        cases e
        rw [hx.str] at rx
        obtain ⟨a, vs, rfl, h1, h2⟩ := hy.lst
        rw [strs_of hs h2] at h1
        exact mt_join pins s σ H _ _ v us Q I rx rs ⟨_, _, ys, rfl, rfl, .inl (SqL.of h1), of_decide_eq_true hf, q _ _ (Same.refl H) (.str _)⟩
      · cases e
    · cases e
  · split at e
    · rename_i ys hs
      split at e
      · rename_i hf
        cases e
        rw [hx.str] at rx
        obtain ⟨a, vs, rfl, h1, h2⟩ := hy.tup
        rw [strs_of hs h2] at h1
        exact mt_join pins s σ H _ _ v us Q I rx rs ⟨_, _, ys, rfl, rfl, .inr h1, of_decide_eq_true hf, q _ _ (Same.refl H) (.str _)⟩
      · cases e
    · cases e
  · cases e
theorem starts_sound : MtR X "str.startswith" (rm1 X.K B G startsD) := by
  intro pins s σ H x xs v us Q I rx rs h
  obtain ⟨dx, dy, y, rfl, hx, hy, fr, d, e, q⟩ := h
  unfold startsD at e
  split at e
  · cases e
    rw [hx.str] at rx
    rw [hy.str] at rs
    exact mt_startswith pins s σ H _ _ v us Q I rx rs ⟨_, _, rfl, rfl, q _ _ (Same.refl H) (.bl _)⟩
  · cases e

/-- an item; the store's lists are known -/
def rIdx (K : PySem.W.Frag) (B : Addr → Prop) (G : List Addr) (m : Mu) : R2 := fun x y H Q =>
  ∃ dx dy, Rw K B G H dx x ∧ Rw K B G H dy y ∧ (∀ (n : Nat) ds, m[n]? = some ds → ∃ a xs, G[n]? = some a ∧ H a = some (.lst xs) ∧ Rps K B G H ds xs) ∧
    ∃ d, idxD m dx dy = some d ∧ ∀ v, Rp K B G H d v → Q v H
theorem idx_sound {m : Mu} : IxR X (rIdx X.K B G m) := by
  intro value slice pins s σ H x y v u Q I rx ry h hs
  obtain ⟨dx, dy, hx, hy, hm, d, e, q⟩ := h
  unfold idxD at e
  split at e
  · obtain ⟨a, xs, rfl, h1, h2⟩ := hx.lst
    rw [hy.int] at ry
    obtain ⟨z, e1, e2⟩ := h2.atI e
    exact ix_list value slice pins s σ H _ _ v u Q I rx ry ⟨_, _, _, z, rfl, rfl, SqL.of h1, e1, q z e2⟩ hs
  · obtain ⟨a, xs, rfl, h1, h2⟩ := hx.tup
    rw [hy.int] at ry
    obtain ⟨z, e1, e2⟩ := h2.atI e
    exact ix_tup value slice pins s σ H _ _ v u Q I rx ry ⟨_, _, _, z, rfl, rfl, h1, e1, q z e2⟩ hs
  · split at e
    · rename_i x0 i0 hf
      rw [hx.str] at rx
      rw [hy.int] at ry
      cases hc : atI x0.cps.toList i0 with
      | none =>
        rw [hc] at e
        cases e
      | some c =>
        rw [hc] at e
        cases e
        exact ix_str value slice pins s σ H _ _ v u Q I rx ry ⟨_, _, c, rfl, rfl, fit_le hf, hc, q _ (.str _)⟩ hs
    · cases e
  · rename_i is i0
    cases hx.rp (fun _ z => nomatch z) with
    | scr h1 =>
      rw [hy.int] at ry
      cases hc : atI is i0 with
      | none =>
        rw [hc] at e
        cases e
      | some c =>
        rw [hc] at e
        cases e
        refine ix_list value slice pins s σ H _ _ v u Q I rx ry ⟨_, _, _, .int c, rfl, rfl, h1.sq, ?_, q _ (.int _)⟩ hs
        unfold atI at hc ⊢
        rw [List.length_map]
        cases hj : ixN is.length i0 with
        | none =>
          rw [hj] at hc
          cases hc
        | some j =>
          rw [hj] at hc
          show (is.map V.int)[j]? = _
          rw [List.getElem?_map, show is[j]? = some c from hc]
          rfl
  · split at e
    · rename_i n i0 ds hd
      obtain ⟨a, xs, e1, h1, h2⟩ := hm _ _ hd
      cases hx.rp (fun _ z => nomatch z) with
      | ref h3 =>
        rw [e1] at h3
        cases h3
        rw [hy.int] at ry
        obtain ⟨z, e1, e2⟩ := h2.atI e
        exact ix_list value slice pins s σ H _ _ v u Q I rx ry ⟨_, _, _, z, rfl, rfl, SqL.of h1, e1, q z e2⟩ hs
    · cases e
  · cases e
/-- a part -/
def rSl (K : PySem.W.Frag) (B : Addr → Prop) (G : List Addr) : V → Option Int → Option Int → Hp → VK → Prop := fun x lo hi H Q =>
  ∃ dx, Rw K B G H dx x ∧ Fr B H ∧ Fits K B G H (slD dx lo hi) Q
theorem sl_sound : SlR X (rSl X.K B G) := by
  intro pins s σ H x v vl vu lo hi sl Q I rx hs pl pu h
  obtain ⟨dx, hx, fr, d, e, q⟩ := h
  unfold slD at e
  split at e
  · cases e
    obtain ⟨a, xs, rfl, h1, h2⟩ := hx.lst
    exact sl_list pins s σ H _ v vl vu lo hi sl Q I rx hs pl pu ⟨_, _, rfl, SqL.of h1, fun p hp => q _ _ (same_upd hp) (Rp.newL fr hp (h2.cut lo hi))⟩
  · cases e
    obtain ⟨a, xs, rfl, h1, h2⟩ := hx.tup
    refine sl_tupA pins s σ H _ v vl vu lo hi sl Q I rx hs pl pu ⟨_, _, rfl, h1, fun ⟨e1, e2⟩ => ?_, fun _ p hp => q _ _ (same_upd hp) (Rp.newT hp (h2.cut lo hi))⟩
    refine q _ _ (Same.refl H) (.tup h1 ?_)
    unfold cutL
    rw [h2.length, e1, e2, Nat.sub_zero, List.drop_zero, ← h2.length, List.take_length]
    exact h2
  · split at e
    · rename_i hf
      cases e
      rw [hx.str] at rx
      exact sl_str pins s σ H _ v vl vu lo hi sl Q I rx hs pl pu ⟨_, rfl, fit_le hf, q _ _ (Same.refl H) (.str _)⟩
    · cases e
  · cases e
end
end Mi

set_option linter.all false
set_option maxRecDepth 100000
set_option maxHeartbeats 4000000
/-! Mi7: how the slots and the store lie behind each step. -/
namespace Mi
open PySem PySem.Spec PyProof.Rows L2

section
variable {K : PySem.W.Frag} {M M' : Addr → Prop} {O O' : Nat → Option Addr} {G G' : List Addr} {σ : L2.St} {H H' : Hp} {r : List Slot} {m m' : Mu}

theorem Rep.fr (R : Rep K M O G σ H r m) : Fr (Bad M O G) H := fun _ h => R.bad h
theorem Rep.rw (R : Rep K M O G σ H r m) (g : Grow G H G' H') {d : D} {v : V} (h : Rw K (Bad M O G) G H d v) : Rw K (Bad M O G') G' H' d v := by
  rcases h with h | ⟨ds, a, xs, e, e2, h1, h2, h3⟩
  · exact .inl (R.rp g h)
  · exact .inr ⟨ds, a, xs, e, e2, (g.keep a _ h1 h3).1, R.rps g h2, (g.keep a _ h1 h3).2⟩

/-- fewer places are kept -/
theorem Bad.mono (h : ∀ a, M' a → M a) (ho : ∀ a i, O' i = some a → ∃ j, O j = some a) {a : Addr} (b : Bad M' O' G a) : Bad M O G a :=
  b.elim (fun z => .inl (h a z)) fun z => .inr (z.imp id fun ⟨i, e⟩ => ho a i e)
theorem Rp.mono {B B' : Addr → Prop} (h : ∀ a, B' a → B a) {d : D} {v : V} (r : Rp K B G H d v) : Rp K B' G H d v :=
  Rp.move (fun a xs n e => ⟨fun z => n (h a z), e⟩) .refl (fun _ _ e => e) r
theorem Rps.mono {B B' : Addr → Prop} (h : ∀ a, B' a → B a) {d : List D} {v : List V} (r : Rps K B G H d v) : Rps K B' G H d v :=
  Rps.move (fun a xs n e => ⟨fun z => n (h a z), e⟩) .refl (fun _ _ e => e) r
theorem Rep.weakM (R : Rep K M O G σ H r m) (h : ∀ a, M' a → M a) : Rep K M' O G σ H r m where
  dom := fun a z => R.dom a (h a z)
  len := R.len
  val := fun i d e => let ⟨v, h1, h2⟩ := R.val i d e; ⟨v, h1, h2.mono fun a b => b.mono h fun _ i z => ⟨i, z⟩⟩
  own := fun i ds e => let ⟨a, xs, h1, h2, h3, h4⟩ := R.own i ds e; ⟨a, xs, h1, h2, h3, h4.mono fun a b => b.mono h fun _ i z => ⟨i, z⟩⟩
  ownU := R.ownU
  ownH := fun i a e => let ⟨h1, h2, h3⟩ := R.ownH i a e; ⟨h1, fun z => h2 (h a z), h3⟩
  st := fun n ds e => let ⟨a, xs, h1, h2, h3⟩ := R.st n ds e; ⟨a, xs, h1, h2, h3.mono fun a b => b.mono h fun _ i z => ⟨i, z⟩⟩
  stl := R.stl
  stU := R.stU
  stM := fun a e z => R.stM a e (h a z)

/-- a slot holds a value -/
theorem Rep.set (R : Rep K M O G σ H r m) {i : Nat} {d : D} {v : V} (h : Rp K (Bad M O G) G H d v) : Rep K M O G (σ.set i (some v)) H (r.set i (.val d)) m where
  dom := R.dom
  len := by rw [List.length_set, List.length_set]; exact R.len
  val := fun j e q => by
    by_cases hj : i = j
    · subst hj
      have hi : i < r.length := by
        have := (List.getElem?_eq_some_iff.mp q).1
        rwa [List.length_set] at this
      rw [List.getElem?_set_self hi] at q
      cases q
      exact ⟨v, by rw [List.getElem?_set_self (by rw [← R.len]; exact hi)], h⟩
    · rw [List.getElem?_set_ne hj] at q
      rw [List.getElem?_set_ne hj]
      exact R.val j e q
  own := fun j e q => by
    by_cases hj : i = j
    · subst hj
      have hi : i < r.length := by
        have := (List.getElem?_eq_some_iff.mp q).1
        rwa [List.length_set] at this
      rw [List.getElem?_set_self hi] at q
      cases q
    · rw [List.getElem?_set_ne hj] at q
      rw [List.getElem?_set_ne hj]
      exact R.own j e q
  ownU := R.ownU
  ownH := R.ownH
  st := R.st
  stl := R.stl
  stU := R.stU
  stM := R.stM
/-- slots are forgotten -/
theorem wipeS_len (r : List Slot) : ∀ vs : List Nat, (wipeS r vs).length = r.length
  | [] => rfl
  | v :: vs => by
    unfold wipeS
    rw [List.length_set, wipeS_len r vs]
theorem wipeS_get {r : List Slot} {i : Nat} {s : Slot} : ∀ {vs : List Nat}, (wipeS r vs)[i]? = some s → s ≠ .un → r[i]? = some s ∧ i ∉ vs
  | [], h, _ => ⟨h, by simp⟩
  | v :: vs, h, n => by
    unfold wipeS at h
    by_cases hi : v = i
    · subst hi
      by_cases hv : v < (wipeS r vs).length
      · rw [List.getElem?_set_self hv] at h
        cases h
        exact absurd rfl n
      · rw [List.getElem?_eq_none (by simpa using hv)] at h
        cases h
    · rw [List.getElem?_set_ne hi] at h
      obtain ⟨h1, h2⟩ := wipeS_get h n
      exact ⟨h1, by simp only [List.mem_cons, not_or]; exact ⟨fun e => hi e.symm, h2⟩⟩
theorem wipe_get {σ : L2.St} {i : Nat} : ∀ {vs : List Nat}, i ∉ vs → (wipe σ vs)[i]? = σ[i]?
  | [], _ => rfl
  | v :: vs, h => by
    unfold wipe
    rw [List.getElem?_set_ne fun e => h (by rw [e]; exact List.mem_cons_self)]
    exact wipe_get fun z => h (List.mem_cons_of_mem _ z)
theorem Rep.wipe (R : Rep K M O G σ H r m) (vs : List Nat) : Rep K M O G (wipe σ vs) H (wipeS r vs) m where
  dom := R.dom
  len := by rw [wipeS_len, wipe_length]; exact R.len
  val := fun j e q => by
    obtain ⟨h1, h2⟩ := wipeS_get q fun z => nomatch z
    rw [wipe_get h2]
    exact R.val j e h1
  own := fun j e q => by
    obtain ⟨h1, h2⟩ := wipeS_get q fun z => nomatch z
    rw [wipe_get h2]
    exact R.own j e h1
  ownU := R.ownU
  ownH := R.ownH
  st := R.st
  stl := R.stl
  stU := R.stU
  stM := R.stM

/-- .. or the place p -/
def Plus (M : Addr → Prop) (p : Addr) : Addr → Prop := fun a => M a ∨ a = p
/-- what stands at a new place is nobody's -/
theorem Rep.forbid (R : Rep K M O G σ H r m) {p : Addr} (hp : H p = none) {xs : List V} : Rep K (Plus M p) O G σ (upd H p (.lst xs)) r m := by
  have s := same_upd (o := HO.lst xs) hp
  have up : ∀ {d : D} {v : V}, Rp K (Bad M O G) G H d v → Rp K (Bad (Plus M p) O G) G (upd H p (.lst xs)) d v := fun {d v} h =>
    Rp.move (fun a ys n e => ⟨fun z => by
      rcases z with (z | z) | z
      · exact n (.inl z)
      · rw [z, hp] at e
        cases e
      · exact n (.inr z), s _ _ e⟩) (.of s) (fun _ _ e => e) h
  have ups : ∀ {d : List D} {v : List V}, Rps K (Bad M O G) G H d v → Rps K (Bad (Plus M p) O G) G (upd H p (.lst xs)) d v := fun {d v} h =>
    Rps.move (fun a ys n e => ⟨fun z => by
      rcases z with (z | z) | z
      · exact n (.inl z)
      · rw [z, hp] at e
        cases e
      · exact n (.inr z), s _ _ e⟩) (.of s) (fun _ _ e => e) h
  refine ⟨fun a z => ?_, R.len, fun i d e => ?_, fun i ds e => ?_, R.ownU, fun i a e => ?_, fun n ds e => ?_, R.stl, R.stU, fun a e z => ?_⟩
  · rcases z with z | z
    · intro q
      exact R.dom a z (s.free q)
    · rw [z, upd_same]
      exact fun q => nomatch q
  · obtain ⟨v, h1, h2⟩ := R.val i d e
    exact ⟨v, h1, up h2⟩
  · obtain ⟨a, ys, h1, h2, h3, h4⟩ := R.own i ds e
    exact ⟨a, ys, h1, h2, s _ _ h3, ups h4⟩
  · obtain ⟨⟨ys, h1⟩, h2, h3⟩ := R.ownH i a e
    refine ⟨⟨ys, s _ _ h1⟩, fun z => z.elim h2 fun z => ?_, h3⟩
    rw [z, hp] at h1
    cases h1
  · obtain ⟨a, ys, h1, h2, h3⟩ := R.st n ds e
    exact ⟨a, ys, h1, s _ _ h2, ups h3⟩
  · rcases z with z | z
    · exact R.stM a e z
    · obtain ⟨ys, h1⟩ := R.lst e
      rw [z, hp] at h1
      cases h1
theorem Rps.forbid (R : Rep K M O G σ H r m) {p : Addr} (hp : H p = none) {xs : List V} {ds : List D} {vs : List V} (h : Rps K (Bad M O G) G H ds vs) : Rps K (Bad (Plus M p) O G) G (upd H p (.lst xs)) ds vs :=
  Rps.move (fun a ys n e => ⟨fun z => by
      rcases z with (z | z) | z
      · exact n (.inl z)
      · rw [z, hp] at e
        cases e
      · exact n (.inr z), same_upd hp _ _ e⟩) (.of (same_upd hp)) (fun _ _ e => e) h
theorem Rw.forbid (R : Rep K M O G σ H r m) {p : Addr} (hp : H p = none) {xs : List V} {d : D} {v : V} (h : Rw K (Bad M O G) G H d v) : Rw K (Bad (Plus M p) O G) G (upd H p (.lst xs)) d v := by
  rcases h with h | ⟨ds, a, ys, e, e2, h1, h2, h3⟩
  · have := Rps.forbid (xs := xs) R hp (.cons h .nil)
    cases this with
    | cons q _ => exact .inl q
  · exact .inr ⟨ds, a, ys, e, e2, same_upd hp _ _ h1, Rps.forbid R hp h2, h3⟩

/-- an object that is nobody's is changed -/
theorem Rp.off {B : Addr → Prop} {p : Addr} {o : HO} {xs : List V} (hb : B p) (hp : H p = some (.lst xs)) {d : D} {v : V} (h : Rp K B G H d v) : Rp K B G (upd H p o) d v :=
  Rp.move (fun a ys n e => ⟨n, by rw [upd_ne fun z => n (by rw [z]; exact hb)]; exact e⟩) (fun a o e n => by rw [upd_ne (ne_of e hp (n _))]; exact e) (fun _ _ e => e) h
theorem Rps.off {B : Addr → Prop} {p : Addr} {o : HO} {xs : List V} (hb : B p) (hp : H p = some (.lst xs)) {d : List D} {v : List V} (h : Rps K B G H d v) : Rps K B G (upd H p o) d v :=
  Rps.move (fun a ys n e => ⟨n, by rw [upd_ne fun z => n (by rw [z]; exact hb)]; exact e⟩) (fun a o e n => by rw [upd_ne (ne_of e hp (n _))]; exact e) (fun _ _ e => e) h
/-- a list that the callers (or this very step) keep is changed -/
theorem Rep.offM (R : Rep K M O G σ H r m) {p : Addr} {xs ys : List V} (hb : M p) (hp : H p = some (.lst xs)) : Rep K M O G σ (upd H p (.lst ys)) r m where
  dom := fun a h => by
    by_cases e : a = p
    · rw [e, upd_same]
      exact fun q => nomatch q
    · rw [upd_ne e]
      exact R.dom a h
  len := R.len
  val := fun i d e => let ⟨v, h1, h2⟩ := R.val i d e; ⟨v, h1, h2.off (.inl hb) hp⟩
  own := fun i ds e => let ⟨a, zs, h1, h2, h3, h4⟩ := R.own i ds e; ⟨a, zs, h1, h2, by
    rw [upd_ne fun z => (R.ownH i a h1).2.1 (by rw [z]; exact hb)]
    exact h3, h4.off (.inl hb) hp⟩
  ownU := R.ownU
  ownH := fun i a e => let ⟨⟨zs, h1⟩, h2, h3⟩ := R.ownH i a e; ⟨⟨zs, by
    rw [upd_ne fun z => h2 (by rw [z]; exact hb)]
    exact h1⟩, h2, h3⟩
  st := fun n ds e => let ⟨a, zs, h1, h2, h3⟩ := R.st n ds e; ⟨a, zs, h1, by
    rw [upd_ne fun z => R.stM a (List.mem_of_getElem? h1) (by rw [z]; exact hb)]
    exact h2, h3.off (.inl hb) hp⟩
  stl := R.stl
  stU := R.stU
  stM := R.stM

/-- a new list becomes the def's own -/
def ownAt (O : Nat → Option Addr) (i : Nat) (p : Addr) : Nat → Option Addr := fun j => if j = i then some p else O j
theorem Rep.newOwn (R : Rep K (Plus M p) O G σ H r m) {i : Nat} {ds : List D} {xs : List V} (hm : ¬ M p) (hp : H p = some (.lst xs)) (h : Rps K (Bad (Plus M p) O G) G H ds xs) :
    Rep K M (ownAt O i p) G (σ.set i (some (.ref p))) H (r.set i (.own ds)) m := by
  have hO : ∀ j, O j ≠ some p := fun j e => (R.ownH j p e).2.1 (.inr rfl)
  have hG : p ∉ G := fun e => R.stM p e (.inr rfl)
  have up : ∀ a, Bad M (ownAt O i p) G a → Bad (Plus M p) O G a := fun a b => by
    rcases b with b | b | ⟨j, b⟩
    · exact .inl (.inl b)
    · exact .inr (.inl b)
    · unfold ownAt at b
      split at b
      · cases b
        exact .inl (.inr rfl)
      · exact .inr (.inr ⟨j, b⟩)
  refine ⟨fun a z => R.dom a (.inl z), by rw [List.length_set, List.length_set]; exact R.len, fun j d e => ?_, fun j ds' e => ?_, fun j k a e1 e2 => ?_, fun j a e => ?_, fun n ds' e => ?_, R.stl, R.stU, fun a e z => R.stM a e (.inl z)⟩
  · by_cases hj : i = j
    · subst hj
      have hi : i < r.length := by
        have := (List.getElem?_eq_some_iff.mp e).1
        rwa [List.length_set] at this
      rw [List.getElem?_set_self hi] at e
      cases e
    · rw [List.getElem?_set_ne hj] at e
      rw [List.getElem?_set_ne hj]
      obtain ⟨v, h1, h2⟩ := R.val j d e
      exact ⟨v, h1, h2.mono up⟩
  · by_cases hj : i = j
    · subst hj
      have hi : i < r.length := by
        have := (List.getElem?_eq_some_iff.mp e).1
        rwa [List.length_set] at this
      rw [List.getElem?_set_self hi] at e
      cases e
      exact ⟨p, xs, if_pos rfl, by rw [List.getElem?_set_self (by rw [← R.len]; exact hi)], hp, h.mono up⟩
    · rw [List.getElem?_set_ne hj] at e
      rw [List.getElem?_set_ne hj]
      obtain ⟨a, zs, h1, h2, h3, h4⟩ := R.own j ds' e
      exact ⟨a, zs, by unfold ownAt; rw [if_neg (Ne.symm hj)]; exact h1, h2, h3, h4.mono up⟩
  · unfold ownAt at e1 e2
    split at e1
    · split at e2
      · rename_i a1 a2
        rw [a1, a2]
      · cases e1
        exact absurd e2 (hO k)
    · split at e2
      · cases e2
        exact absurd e1 (hO j)
      · exact R.ownU j k a e1 e2
  · unfold ownAt at e
    split at e
    · cases e
      exact ⟨⟨xs, hp⟩, hm, hG⟩
    · obtain ⟨h1, h2, h3⟩ := R.ownH j a e
      exact ⟨h1, fun z => h2 (.inl z), h3⟩
  · obtain ⟨a, zs, h1, h2, h3⟩ := R.st n ds' e
    exact ⟨a, zs, h1, h2, h3.mono up⟩
/-- an own list is changed -/
theorem Rep.mutOwn (R : Rep K M O G σ H r m) {i : Nat} {ds es : List D} {a : Addr} {xs ys : List V} (hr : r[i]? = some (.own ds)) (hO : O i = some a) (ha : H a = some (.lst xs)) (h : Rps K (Bad M O G) G H es ys) :
    Rep K M O G σ (upd H a (.lst ys)) (r.set i (.own es)) m := by
  have hb : Bad M O G a := .inr (.inr ⟨i, hO⟩)
  have hs : σ[i]? = some (some (.ref a)) := by
    obtain ⟨b, zs, h1, h2, _⟩ := R.own i ds hr
    rw [hO] at h1
    cases h1
    exact h2
  have hi : i < r.length := (List.getElem?_eq_some_iff.mp hr).1
  refine ⟨fun b z => ?_, by rw [List.length_set]; exact R.len, fun j d e => ?_, fun j ds' e => ?_, R.ownU, fun j b e => ?_, fun n ds' e => ?_, R.stl, R.stU, R.stM⟩
  · by_cases e : b = a
    · rw [e, upd_same]
      exact fun q => nomatch q
    · rw [upd_ne e]
      exact R.dom b z
  · by_cases hj : i = j
    · subst hj
      rw [List.getElem?_set_self hi] at e
      cases e
    · rw [List.getElem?_set_ne hj] at e
      obtain ⟨v, h1, h2⟩ := R.val j d e
      exact ⟨v, h1, h2.off hb ha⟩
  · by_cases hj : i = j
    · subst hj
      rw [List.getElem?_set_self hi] at e
      cases e
      exact ⟨a, ys, hO, hs, upd_same, h.off hb ha⟩
    · rw [List.getElem?_set_ne hj] at e
      obtain ⟨b, zs, h1, h2, h3, h4⟩ := R.own j ds' e
      exact ⟨b, zs, h1, h2, by rw [upd_ne fun z => hj (R.ownU i j a hO (by rw [← z]; exact h1))]; exact h3, h4.off hb ha⟩
  · obtain ⟨⟨zs, h1⟩, h2, h3⟩ := R.ownH j b e
    refine ⟨?_, h2, h3⟩
    by_cases q : b = a
    · rw [q, upd_same]
      exact ⟨_, rfl⟩
    · rw [upd_ne q]
      exact ⟨zs, h1⟩
  · obtain ⟨b, zs, h1, h2, h3⟩ := R.st n ds' e
    exact ⟨b, zs, h1, by rw [upd_ne fun z => (R.ownH i a hO).2.2 (by rw [← z]; exact List.mem_of_getElem? h1)]; exact h2, h3.off hb ha⟩
/-- an own list is no longer changed -/
def offAt (O : Nat → Option Addr) (i : Nat) : Nat → Option Addr := fun j => if j = i then none else O j
theorem Rep.frz (R : Rep K M O G σ H r m) {i : Nat} {ds : List D} (hr : r[i]? = some (.own ds)) : Rep K M (offAt O i) G σ H (r.set i (.val (.lst ds))) m := by
  obtain ⟨a, xs, h1, h2, h3, h4⟩ := R.own i ds hr
  have hi : i < r.length := (List.getElem?_eq_some_iff.mp hr).1
  have up : ∀ b, Bad M (offAt O i) G b → Bad M O G b := fun b z => by
    rcases z with z | z | ⟨j, z⟩
    · exact .inl z
    · exact .inr (.inl z)
    · unfold offAt at z
      split at z
      · cases z
      · exact .inr (.inr ⟨j, z⟩)
  have na : ¬ Bad M (offAt O i) G a := fun z => by
    rcases z with z | z | ⟨j, z⟩
    · exact (R.ownH i a h1).2.1 z
    · exact (R.ownH i a h1).2.2 z
    · unfold offAt at z
      split at z
      · cases z
      · rename_i hj
        exact hj (R.ownU j i a z h1)
  refine ⟨R.dom, by rw [List.length_set]; exact R.len, fun j d e => ?_, fun j ds' e => ?_, fun j k b e1 e2 => ?_, fun j b e => ?_, fun n ds' e => ?_, R.stl, R.stU, R.stM⟩
  · by_cases hj : i = j
    · subst hj
      rw [List.getElem?_set_self hi] at e
      cases e
      exact ⟨.ref a, h2, .lst na h3 (h4.mono up)⟩
    · rw [List.getElem?_set_ne hj] at e
      obtain ⟨v, h1, h2⟩ := R.val j d e
      exact ⟨v, h1, h2.mono up⟩
  · by_cases hj : i = j
    · subst hj
      rw [List.getElem?_set_self hi] at e
      cases e
    · rw [List.getElem?_set_ne hj] at e
      obtain ⟨b, zs, q1, q2, q3, q4⟩ := R.own j ds' e
      exact ⟨b, zs, by unfold offAt; rw [if_neg (Ne.symm hj)]; exact q1, q2, q3, q4.mono up⟩
  · unfold offAt at e1 e2
    split at e1
    · cases e1
    · split at e2
      · cases e2
      · exact R.ownU j k b e1 e2
  · unfold offAt at e
    split at e
    · cases e
    · exact R.ownH j b e
  · obtain ⟨b, zs, q1, q2, q3⟩ := R.st n ds' e
    exact ⟨b, zs, q1, q2, q3.mono up⟩
/-- a list of the store is changed -/
theorem Rep.setSt (R : Rep K M O G σ H r m) {n : Nat} {a : Addr} {es : List D} {xs ys : List V} (hg : G[n]? = some a) (ha : H a = some (.lst xs)) (h : Rps K (Bad M O G) G H es ys) :
    Rep K M O G σ (upd H a (.lst ys)) r (m.set n es) := by
  have hb : Bad M O G a := .inr (.inl (List.mem_of_getElem? hg))
  have hn : n < m.length := by rw [← R.stl]; exact (List.getElem?_eq_some_iff.mp hg).1
  refine ⟨fun b z => ?_, R.len, fun j d e => ?_, fun j ds' e => ?_, R.ownU, fun j b e => ?_, fun k ds' e => ?_, by rw [List.length_set]; exact R.stl, R.stU, R.stM⟩
  · by_cases e : b = a
    · rw [e, upd_same]
      exact fun q => nomatch q
    · rw [upd_ne e]
      exact R.dom b z
  · obtain ⟨v, h1, h2⟩ := R.val j d e
    exact ⟨v, h1, h2.off hb ha⟩
  · obtain ⟨b, zs, h1, h2, h3, h4⟩ := R.own j ds' e
    exact ⟨b, zs, h1, h2, by rw [upd_ne fun z => (R.ownH j b h1).2.2 (by rw [z]; exact List.mem_of_getElem? hg)]; exact h3, h4.off hb ha⟩
  · obtain ⟨⟨zs, h1⟩, h2, h3⟩ := R.ownH j b e
    exact ⟨⟨zs, by rw [upd_ne fun z => h3 (by rw [z]; exact List.mem_of_getElem? hg)]; exact h1⟩, h2, h3⟩
  · by_cases hk : n = k
    · subst hk
      rw [List.getElem?_set_self hn] at e
      cases e
      exact ⟨a, ys, hg, upd_same, h.off hb ha⟩
    · rw [List.getElem?_set_ne hk] at e
      obtain ⟨b, zs, h1, h2, h3⟩ := R.st k ds' e
      refine ⟨b, zs, h1, ?_, h3.off hb ha⟩
      rw [upd_ne fun z => ?_]
      · exact h2
      · obtain ⟨q1, q2⟩ := List.getElem?_eq_some_iff.mp hg
        obtain ⟨q3, q4⟩ := List.getElem?_eq_some_iff.mp h1
        exact hk ((List.getElem_inj R.stU).mp (q2.trans (z.symm.trans q4.symm)))
/-- a new list of the store -/
theorem Rep.newSt (R : Rep K (Plus M p) O G σ H r m) {ds : List D} {xs : List V} (hm : ¬ M p) (hp : H p = some (.lst xs)) (h : Rps K (Bad (Plus M p) O G) G H ds xs) :
    Rep K M O (G ++ [p]) σ H r (m ++ [ds]) := by
  have hO : ∀ j, O j ≠ some p := fun j e => (R.ownH j p e).2.1 (.inr rfl)
  have hG : p ∉ G := fun e => R.stM p e (.inr rfl)
  have up : ∀ a, Bad M O (G ++ [p]) a → Bad (Plus M p) O G a := fun a b => by
    rcases b with b | b | b
    · exact .inl (.inl b)
    · rcases List.mem_append.mp b with b | b
      · exact .inr (.inl b)
      · exact .inl (.inr (by simpa using b))
    · exact .inr (.inr b)
  have pre : ∀ (n : Nat) (a : Addr), G[n]? = some a → (G ++ [p])[n]? = some a := fun n a e => by
    rw [List.getElem?_append_left (List.getElem?_eq_some_iff.mp e).1]
    exact e
  have mv : ∀ {d : D} {v : V}, Rp K (Bad (Plus M p) O G) G H d v → Rp K (Bad M O (G ++ [p])) (G ++ [p]) H d v := fun {d v} q =>
    Rp.move (fun a ys n e => ⟨fun z => n (up a z), e⟩) .refl pre q
  have mvs : ∀ {d : List D} {v : List V}, Rps K (Bad (Plus M p) O G) G H d v → Rps K (Bad M O (G ++ [p])) (G ++ [p]) H d v := fun {d v} q =>
    Rps.move (fun a ys n e => ⟨fun z => n (up a z), e⟩) .refl pre q
  refine ⟨fun a z => R.dom a (.inl z), R.len, fun j d e => ?_, fun j ds' e => ?_, R.ownU, fun j a e => ?_, fun n ds' e => ?_, by rw [List.length_append, List.length_append, R.stl] <;> rfl, ?_, fun a e z => ?_⟩
  · obtain ⟨v, h1, h2⟩ := R.val j d e
    exact ⟨v, h1, mv h2⟩
  · obtain ⟨a, zs, h1, h2, h3, h4⟩ := R.own j ds' e
    exact ⟨a, zs, h1, h2, h3, mvs h4⟩
  · obtain ⟨h1, h2, h3⟩ := R.ownH j a e
    refine ⟨h1, fun z => h2 (.inl z), fun z => ?_⟩
    rcases List.mem_append.mp z with z | z
    · exact h3 z
    · have : a = p := by simpa using z
      exact hO j (by rw [← this]; exact e)
  · by_cases hn : n < m.length
    · rw [List.getElem?_append_left hn] at e
      obtain ⟨a, zs, h1, h2, h3⟩ := R.st n ds' e
      exact ⟨a, zs, pre n a h1, h2, mvs h3⟩
    · have hl : n < (m ++ [ds]).length := (List.getElem?_eq_some_iff.mp e).1
      rw [List.length_append, List.length_singleton] at hl
      have en : n = m.length := by omega
      subst en
      rw [List.getElem?_append_right (Nat.le_refl _), Nat.sub_self] at e
      cases e
      exact ⟨p, xs, by rw [List.getElem?_append_right (by rw [R.stl]; exact Nat.le_refl _), R.stl, Nat.sub_self]; rfl, hp, mvs h⟩
  · rw [List.nodup_append]
    exact ⟨R.stU, by simp, fun a ha b hb => by
      have : b = p := by simpa using hb
      rw [this]
      rintro rfl
      exact hG ha⟩
  · rcases List.mem_append.mp e with e | e
    · exact R.stM a e (.inl z)
    · have : a = p := by simpa using e
      exact hm (by rw [← this]; exact z)
end
end Mi

set_option linter.all false
set_option maxRecDepth 100000
set_option maxHeartbeats 4000000
/-! Mi8: readings; what a loop walks; comprehensions. -/
namespace Mi
open PySem PySem.Spec PyProof.Rows L2

abbrev Rel (α β : Type) := (Addr → Prop) → List Addr → Hp → α → β → Prop
/-- behind an evaluation -/
def Want (K : PySem.W.Frag) (M : Addr → Prop) (O : Nat → Option Addr) (σ : L2.St) (r : List Slot) {α β : Type} (P : Rel α β) (G : List Addr) (H : Hp) (x : Res α) (Q : β → Hp → Prop) : Prop :=
  match x with
  | .ok d m' => ∀ v H' G', Grow G H G' H' → Rep K M O G' σ H' r m' → P (Bad M O G') G' H' d v → Q v H'
  | .ex _ _ _ => False
  | .bad => False
/-- a reading -/
def tG (K : PySem.W.Frag) {α β : Type} (P : Rel α β) (f : List Slot → Mu → Res α) : L2.St → Hp → (β → Hp → Prop) → Prop := fun σ H Q =>
  ∃ M O G r m, Rep K M O G σ H r m ∧ Want K M O σ r P G H (f r m) Q
abbrev rB : Rel Bool Bool := fun _ _ _ a b => a = b
inductive Rws (K : PySem.W.Frag) (B : Addr → Prop) (G : List Addr) (H : Hp) : List D → List V → Prop
  | nil : Rws K B G H [] []
  | cons {d : D} {ds : List D} {v : V} {vs : List V} : Rw K B G H d v → Rws K B G H ds vs → Rws K B G H (d :: ds) (v :: vs)

section
variable {K : PySem.W.Frag} {M : Addr → Prop} {O : Nat → Option Addr} {σ : L2.St} {r : List Slot} {α β γ δ : Type} {P : Rel α β} {P' : Rel γ δ} {G G1 : List Addr} {H H1 : Hp} {m : Mu}
theorem Want.grow {x : Res α} {Q : β → Hp → Prop} (w : Want K M O σ r P G H x Q) (g : Grow G H G1 H1) : Want K M O σ r P G1 H1 x Q := by
  cases x with
  | ok d m => exact fun v H' G' g' R p => w v H' G' (g.trans g') R p
  | ex c a m => exact w
  | bad => exact w
theorem Want.mono {x : Res α} {Q Q' : β → Hp → Prop} (w : Want K M O σ r P G H x Q) (h : ∀ v H', Q v H' → Q' v H') : Want K M O σ r P G H x Q' := by
  cases x with
  | ok d m => exact fun v H' G' g' R p => h _ _ (w v H' G' g' R p)
  | ex c a m => exact w
  | bad => exact w
theorem Want.bind {x : Res α} {k : α → Mu → Res γ} {Q : δ → Hp → Prop} (w : Want K M O σ r P' G H (x.bind k) Q) :
    Want K M O σ r P G H x fun v H1 => ∃ d m1 G1, Grow G H G1 H1 ∧ Rep K M O G1 σ H1 r m1 ∧ P (Bad M O G1) G1 H1 d v ∧ Want K M O σ r P' G1 H1 (k d m1) Q := by
  cases x with
  | ok d m => exact fun v H' G' g R p => ⟨d, m, G', g, R, p, w.grow g⟩
  | ex c a m => exact w
  | bad => exact w
/-- a value worked out of values -/
theorem Want.fits {o : Option D} {Q : VK} (R : Rep K M O G σ H r m) (w : Want K M O σ r (Rp K) G H (.of o m) Q) : Fits K (Bad M O G) G H o Q := by
  cases o with
  | none => exact False.elim w
  | some d => exact ⟨d, rfl, fun v H' s p => w v H' G (Grow.same s) (R.same s) p⟩
theorem Want.bool {o : Option Bool} {Q : VK} (R : Rep K M O G σ H r m) (w : Want K M O σ r (Rp K) G H (.of (o.map .bl) m) Q) : ∃ b, o = some b ∧ Q (.bl b) H := by
  cases o with
  | none => exact False.elim w
  | some d => exact ⟨d, rfl, w _ H G (Grow.refl G H) R (.bl d)⟩
theorem Want.here {d : α} {v : β} {Q : β → Hp → Prop} (R : Rep K M O G σ H r m) (w : Want K M O σ r P G H (.ok d m) Q) (p : P (Bad M O G) G H d v) : Q v H := w v H G (Grow.refl G H) R p
theorem tG.imp {K : PySem.W.Frag} {P : Rel α β} {f : List Slot → Mu → Res α} {Q Q' : β → Hp → Prop} (h : ∀ v H', Q v H' → Q' v H') (t : tG K P f σ H Q) : tG K P f σ H Q' := by
  obtain ⟨M, O, G, r, m, R, w⟩ := t
  exact ⟨M, O, G, r, m, R, w.mono h⟩

theorem Rws.of : ∀ {ds : List D} {vs : List V} {B : Addr → Prop}, Rps K B G H ds vs → Rws K B G H ds vs
  | _, _, _, .nil => .nil
  | _, _, _, .cons a b => .cons (.inl a) (Rws.of b)
theorem Rws.map {K : PySem.W.Frag} {B B' : Addr → Prop} {G G' : List Addr} {H H' : Hp} (h : ∀ d v, Rw K B G H d v → Rw K B' G' H' d v) : ∀ {ds : List D} {vs : List V}, Rws K B G H ds vs → Rws K B' G' H' ds vs
  | _, _, .nil => .nil
  | _, _, .cons a b => .cons (h _ _ a) (Rws.map h b)
theorem Rws.same {B : Addr → Prop} {ds : List D} {vs : List V} (s : Same H H1) (h : Rws K B G H ds vs) : Rws K B G H1 ds vs := h.map fun _ _ => Rw.same s
theorem Rws.length {B : Addr → Prop} : ∀ {ds : List D} {vs : List V}, Rws K B G H ds vs → ds.length = vs.length
  | _, _, .nil => rfl
  | _, _, .cons _ t => by rw [List.length_cons, List.length_cons, Rws.length t]
end

section
variable {X : Cx}
theorem pe_imp {e : Expr} {t t' : TE} (h : PE X e t) (i : ∀ σ H Q, t' σ H Q → t σ H Q) : PE X e t' := ⟨fun pins s σ H Q I w => h.run pins s σ H Q I (i σ H Q w)⟩
theorem pt_imp {e : Expr} {t t' : TT} (h : PT X e t) (i : ∀ σ H Q, t' σ H Q → t σ H Q) : PT X e t' := ⟨fun pins s σ H Q I w => h.run pins s σ H Q I (i σ H Q w)⟩
theorem pw_imp {e : Expr} {t t' : TT} (h : PW X e t) (i : ∀ σ H Q, t' σ H Q → t σ H Q) : PW X e t' := ⟨fun wh pins s σ H Q I w => h.run wh pins s σ H Q I (i σ H Q w)⟩
theorem pa_imp {e : List Expr} {t t' : TA} (h : PA X e t) (i : ∀ σ H Q, t' σ H Q → t σ H Q) : PA X e t' := ⟨fun pos pins s σ H Q I w => h.run pos pins s σ H Q I (i σ H Q w)⟩
end

/-! ### what a loop walks -/
/-- J gives the items xs, whatever grows meanwhile, so long as the things walked stand -/
def Feeds (K : PySem.W.Frag) (J : It) (xs ds : List D) (vs : List V) : Prop :=
  (∀ (i : Nat) (x : D) (B : Addr → Prop) (G : List Addr) (H : Hp), Rws K B G H ds vs → xs[i]? = some x → J.go i H ∧ ∀ v H', J.yld i H v H' → Same H H' ∧ Rp K B G H' x v) ∧
  ∀ (i : Nat) (B : Addr → Prop) (G : List Addr) (H : Hp), Rws K B G H ds vs → xs.length ≤ i → J.stop i H
/-- the reading of what is walked -/
def tIt (K : PySem.W.Frag) (P : Rel (List D) (List V)) (f : List Slot → Mu → Res (List D)) (ik : IK) : TI := fun σ H R => ∃ M O G r m, Rep K M O G σ H r m ∧ match f r m with
  | .ok ds m' => ∃ xs, itemsD ik ds = some xs ∧ ∀ J H' G' vs, Grow G H G' H' → Rep K M O G' σ H' r m' → P (Bad M O G') G' H' ds vs → Feeds K J xs ds vs → R J H'
  | _ => False

theorem Rws.one {K : PySem.W.Frag} {B : Addr → Prop} {G : List Addr} {H : Hp} {d : D} {v : V} (h : Rws K B G H [d] [v]) : Rw K B G H d v := by
  cases h with
  | cons a _ => exact a
theorem Rws.two {K : PySem.W.Frag} {B : Addr → Prop} {G : List Addr} {H : Hp} {d e : D} {v w : V} (h : Rws K B G H [d, e] [v, w]) : Rw K B G H d v ∧ Rw K B G H e w := by
  cases h with
  | cons a t => exact ⟨a, t.one⟩
theorem Rws.inv1 {K : PySem.W.Frag} {B : Addr → Prop} {G : List Addr} {H : Hp} {d : D} {vs : List V} (h : Rws K B G H [d] vs) : ∃ v, vs = [v] ∧ Rw K B G H d v := by
  cases h with
  | cons a t =>
    cases t
    exact ⟨_, rfl, a⟩
theorem Rws.inv2 {K : PySem.W.Frag} {B : Addr → Prop} {G : List Addr} {H : Hp} {d e : D} {vs : List V} (h : Rws K B G H [d, e] vs) : ∃ v w, vs = [v, w] ∧ Rw K B G H d v ∧ Rw K B G H e w := by
  cases h with
  | cons a t =>
    obtain ⟨w, rfl, b⟩ := t.inv1
    exact ⟨_, _, rfl, a, b⟩

section
variable {K : PySem.W.Frag} {B : Addr → Prop} {G : List Addr} {H : Hp}
theorem sqL_inj {a : Addr} {xs ys : List V} (h : H a = some (.lst xs)) (h2 : H a = some (.lst ys)) : xs = ys := by
  rw [h] at h2
  cases h2
  rfl
theorem rw_lst {d : List D} {a : Addr} (h : Rw K B G H (.lst d) (.ref a)) : ∃ xs, H a = some (.lst xs) ∧ Rps K B G H d xs := by
  obtain ⟨b, xs, e, h1, h2⟩ := h.lst
  cases e
  exact ⟨xs, h1, h2⟩
theorem rw_tup {d : List D} {a : Addr} (h : Rw K B G H (.tup d) (.ref a)) : ∃ xs, SqT K H a xs ∧ Rps K B G H d xs := by
  obtain ⟨b, xs, e, h1, h2⟩ := h.tup
  cases e
  exact ⟨xs, h1, h2⟩
theorem feeds_lst {ds : List D} {a : Addr} : Feeds K (Itl K a) ds [.lst ds] [.ref a] := by
  refine ⟨fun i x B G H h e => ?_, fun i B G H h e => ?_⟩
  · obtain ⟨xs, h1, h2⟩ := rw_lst h.one
    obtain ⟨v, h3, h4⟩ := h2.get e
    refine ⟨⟨xs, v, SqL.of h1, h3⟩, fun w H' ⟨q1, q2⟩ => ?_⟩
    subst q1
    have := q2 xs (SqL.of h1)
    rw [h3] at this
    cases this
    exact ⟨Same.refl _, h4⟩
  · obtain ⟨xs, h1, h2⟩ := rw_lst h.one
    exact ⟨xs, SqL.of h1, by rw [← h2.length]; exact e⟩
theorem feeds_tup {ds : List D} {a : Addr} : Feeds K (Itt K a) ds [.tup ds] [.ref a] := by
  refine ⟨fun i x B G H h e => ?_, fun i B G H h e => ?_⟩
  · obtain ⟨xs, h1, h2⟩ := rw_tup h.one
    obtain ⟨v, h3, h4⟩ := h2.get e
    refine ⟨⟨xs, v, h1, h3⟩, fun w H' ⟨q1, q2⟩ => ?_⟩
    subst q1
    have := q2 xs h1
    rw [h3] at this
    cases this
    exact ⟨Same.refl _, h4⟩
  · obtain ⟨xs, h1, h2⟩ := rw_tup h.one
    exact ⟨xs, h1, by rw [← h2.length]; exact e⟩
theorem feeds_str {x : Str} {v : V} : Feeds K (Its x) (x.cps.toList.map sign1) [.str x] [v] := by
  refine ⟨fun i d B G H h e => ?_, fun i B G H h e => ?_⟩
  · rw [List.getElem?_map] at e
    cases q : x.cps.toList[i]? with
    | none =>
      rw [q] at e
      cases e
    | some c =>
      rw [q] at e
      cases e
      rw [Array.getElem?_toList] at q
      refine ⟨(Array.getElem?_eq_some_iff.mp q).1, fun w H' ⟨q1, c', q2, q3⟩ => ?_⟩
      subst q1 q3
      rw [q] at q2
      cases q2
      exact ⟨Same.refl _, .str _⟩
  · rw [List.length_map, Array.length_toList] at e
    exact e
theorem rng_get : ∀ (n : Nat) (a : Int) (i : Nat), (rng a n)[i]? = if i < n then some (.int (a + i)) else none
  | 0, a, i => by simp [rng]
  | n + 1, a, 0 => by simp [rng]
  | n + 1, a, i + 1 => by
    have := rng_get n (a + 1) i
    simp only [rng, List.getElem?_cons_succ, this]
    by_cases h : i < n
    · rw [if_pos h, if_pos (by omega)]
      congr 2
      omega
    · rw [if_neg h, if_neg (by omega)]
theorem rng_len : ∀ (n : Nat) (a : Int), (rng a n).length = n
  | 0, _ => rfl
  | n + 1, a => by rw [rng, List.length_cons, rng_len n]
theorem feeds_rng {a : Int} {n : Nat} {ds : List D} {vs : List V} : Feeds K (Itr a n) (rng a n) ds vs := by
  refine ⟨fun i d B G H h e => ?_, fun i B G H h e => ?_⟩
  · rw [rng_get] at e
    split at e
    · rename_i hi
      cases e
      exact ⟨hi, fun w H' ⟨q1, q2⟩ => by subst q1 q2; exact ⟨Same.refl _, .int _⟩⟩
    · cases e
  · rw [rng_len] at e
    exact e
theorem enums_get : ∀ (xs : List D) (a : Int) (i : Nat), (enums a xs)[i]? = xs[i]?.map fun x => D.tup [.int (a + i), x]
  | [], a, i => by simp [enums]
  | x :: xs, a, 0 => by simp [enums]
  | x :: xs, a, i + 1 => by
    have := enums_get xs (a + 1) i
    simp only [enums, List.getElem?_cons_succ, this]
    congr 1
    funext y
    congr 3
    omega
theorem enums_len : ∀ (xs : List D) (a : Int), (enums a xs).length = xs.length
  | [], _ => rfl
  | x :: xs, a => by rw [enums, List.length_cons, List.length_cons, enums_len xs]
theorem feeds_enum {ds : List D} {a : Addr} : Feeds K (Ite K a) (enums 0 ds) [.lst ds] [.ref a] := by
  refine ⟨fun i x B G H h e => ?_, fun i B G H h e => ?_⟩
  · obtain ⟨xs, h1, h2⟩ := rw_lst h.one
    rw [enums_get] at e
    cases q : ds[i]? with
    | none =>
      rw [q] at e
      cases e
    | some y =>
      rw [q] at e
      cases e
      obtain ⟨v, h3, h4⟩ := h2.get q
      refine ⟨⟨xs, v, SqL.of h1, h3⟩, fun w H' ⟨T, z, q1, q2, q3, q4⟩ => ?_⟩
      subst q1 q3
      have := q4 xs (SqL.of h1)
      rw [h3] at this
      cases this
      refine ⟨same_upd q2, Rp.newT q2 (.cons ?_ (.cons h4 .nil))⟩
      have e0 : (0 : Int) + (i : Int) = (i : Int) := by omega
      rw [e0]
      exact .int _
  · obtain ⟨xs, h1, h2⟩ := rw_lst h.one
    exact ⟨xs, SqL.of h1, by rw [← h2.length]; rw [enums_len] at e; exact e⟩
theorem feeds_enumT {ds : List D} {a : Addr} : Feeds K (Itet K a) (enums 0 ds) [.tup ds] [.ref a] := by
  refine ⟨fun i x B G H h e => ?_, fun i B G H h e => ?_⟩
  · obtain ⟨xs, h1, h2⟩ := rw_tup h.one
    rw [enums_get] at e
    cases q : ds[i]? with
    | none =>
      rw [q] at e
      cases e
    | some y =>
      rw [q] at e
      cases e
      obtain ⟨v, h3, h4⟩ := h2.get q
      refine ⟨⟨xs, v, h1, h3⟩, fun w H' ⟨T, z, q1, q2, q3, q4⟩ => ?_⟩
      subst q1 q3
      have := q4 xs (h1)
      rw [h3] at this
      cases this
      refine ⟨same_upd q2, Rp.newT q2 (.cons ?_ (.cons h4 .nil))⟩
      have e0 : (0 : Int) + (i : Int) = (i : Int) := by omega
      rw [e0]
      exact .int _
  · obtain ⟨xs, h1, h2⟩ := rw_tup h.one
    exact ⟨xs, h1, by rw [← h2.length]; rw [enums_len] at e; exact e⟩
theorem pairs_get : ∀ (xs ys : List D) (i : Nat) (x : D), (pairs xs ys)[i]? = some x → ∃ a b, xs[i]? = some a ∧ ys[i]? = some b ∧ x = .tup [a, b]
  | [], ys, i, x, e => by simp [pairs] at e
  | a :: xs, [], i, x, e => by simp [pairs] at e
  | a :: xs, b :: ys, 0, x, e => by
    simp [pairs] at e
    exact ⟨a, b, rfl, rfl, e.symm⟩
  | a :: xs, b :: ys, i + 1, x, e => by
    have e' : (pairs xs ys)[i]? = some x := by simpa [pairs] using e
    obtain ⟨c, d, h1, h2, h3⟩ := pairs_get xs ys i x e'
    exact ⟨c, d, by simpa using h1, by simpa using h2, h3⟩
theorem pairs_len : ∀ (xs ys : List D) (i : Nat), (pairs xs ys).length ≤ i → xs.length ≤ i ∨ ys.length ≤ i
  | [], ys, i, e => .inl (Nat.zero_le _)
  | a :: xs, [], i, e => .inr (Nat.zero_le _)
  | a :: xs, b :: ys, 0, e => by simp [pairs] at e
  | a :: xs, b :: ys, i + 1, e => by
    have e' : (pairs xs ys).length ≤ i := by simpa [pairs] using e
    rcases pairs_len xs ys i e' with h | h
    · exact .inl (by simpa using h)
    · exact .inr (by simpa using h)
theorem feeds_zipL {ds es : List D} {a b : Addr} : Feeds K (Itz K a b) (pairs ds es) [.lst ds, .lst es] [.ref a, .ref b] := by
  refine ⟨fun i x B G H h e => ?_, fun i B G H h e => ?_⟩
  · obtain ⟨q1, q2⟩ := h.two
    obtain ⟨xs, h1, h2⟩ := rw_lst q1
    obtain ⟨ys, h3, h4⟩ := rw_lst q2
    obtain ⟨c, d, e1, e2, rfl⟩ := pairs_get _ _ _ _ e
    obtain ⟨v, h5, h6⟩ := h2.get e1
    obtain ⟨w, h7, h8⟩ := h4.get e2
    refine ⟨⟨xs, ys, v, w, SqL.of h1, SqL.of h3, h5, h7⟩, fun u H' ⟨T, z, z', p1, p2, p3, p4, p5⟩ => ?_⟩
    subst p1 p3
    have t1 := p4 xs (SqL.of h1)
    have t2 := p5 ys (SqL.of h3)
    rw [h5] at t1
    rw [h7] at t2
    cases t1
    cases t2
    exact ⟨same_upd p2, Rp.newT p2 (.cons h6 (.cons h8 .nil))⟩
  · obtain ⟨q1, q2⟩ := h.two
    obtain ⟨xs, h1, h2⟩ := rw_lst q1
    obtain ⟨ys, h3, h4⟩ := rw_lst q2
    exact ⟨xs, ys, SqL.of h1, SqL.of h3, by rw [← h2.length, ← h4.length]; exact pairs_len _ _ _ e⟩
theorem feeds_zipT {ds es : List D} {a b : Addr} : Feeds K (RZ.ItzT K a b) (pairs ds es) [.tup ds, .tup es] [.ref a, .ref b] := by
  refine ⟨fun i x B G H h e => ?_, fun i B G H h e => ?_⟩
  · obtain ⟨q1, q2⟩ := h.two
    obtain ⟨xs, h1, h2⟩ := rw_tup q1
    obtain ⟨ys, h3, h4⟩ := rw_tup q2
    obtain ⟨c, d, e1, e2, rfl⟩ := pairs_get _ _ _ _ e
    obtain ⟨v, h5, h6⟩ := h2.get e1
    obtain ⟨w, h7, h8⟩ := h4.get e2
    refine ⟨⟨xs, ys, v, w, h1, h3, h5, h7⟩, fun u H' ⟨T, z, z', p1, p2, p3, p4, p5⟩ => ?_⟩
    subst p1 p3
    have t1 := p4 xs h1
    have t2 := p5 ys h3
    rw [h5] at t1
    rw [h7] at t2
    cases t1
    cases t2
    exact ⟨same_upd p2, Rp.newT p2 (.cons h6 (.cons h8 .nil))⟩
  · obtain ⟨q1, q2⟩ := h.two
    obtain ⟨xs, h1, h2⟩ := rw_tup q1
    obtain ⟨ys, h3, h4⟩ := rw_tup q2
    exact ⟨xs, ys, h1, h3, by rw [← h2.length, ← h4.length]; exact pairs_len _ _ _ e⟩
end
end Mi

set_option linter.all false
set_option maxRecDepth 100000
set_option maxHeartbeats 4000000
/-! Mi9: targets; comprehensions. -/
namespace Mi
open PySem PySem.Spec PyProof.Rows L2

/-! ### targets -/
def NmOk (X : Cx) (i : Nat) (x : Str) : Prop := X.N[i]? = some x ∧ Loc X.env.scope x ∧ (X.fn x = true ∨ X.env.scope.names.lookup x = some .local)
def TgL (X : Cx) : List Nat → List Expr → Prop
  | [], [] => True
  | i :: is, .Name x _ :: ts => NmOk X i x ∧ TgL X is ts
  | _, _ => False
def TgOk (X : Cx) : Tgt → Expr → Prop
  | .nm i, .Name x _ => NmOk X i x
  | .tp is, .Tuple ts _ _ => TgL X is ts
  | _, _ => False
abbrev tgS := tgSlots
def setSt (σ : L2.St) (is : List Nat) (vs : List V) : L2.St := (is.zip vs).foldl (fun σ p => σ.set p.1 (some p.2)) σ
def gNames (is : List Nat) : TGs := fun vs σ H Q => vs.length = is.length ∧ Q (setSt σ is vs) H
theorem pgs_names {X : Cx} (hN : X.N.Nodup) : ∀ {is : List Nat} {ts : List Expr}, TgL X is ts → PGs X ts (gNames is)
  | [], [], _ => ⟨fun pins s σ H vs us Q I r h => by
    obtain ⟨e, h⟩ := h
    have : vs = [] := List.eq_nil_of_length_eq_zero e
    subst this
    exact pgs_nil.run pins s σ H [] us Q I r ⟨rfl, h⟩⟩
  | i :: is, .Name x p :: ts, h => ⟨fun pins s σ H vs us Q I r hq => by
    obtain ⟨⟨h1, h2, h3⟩, h4⟩ := h
    obtain ⟨e, hq⟩ := hq
    cases vs with
    | nil => cases e
    | cons v vs =>
      refine (pgs_cons (pg_name (pos := p) hN h1 h2 h3) (pgs_names hN h4)).run pins s σ H _ us Q I r ⟨v, vs, rfl, ?_⟩
      exact ⟨by simpa using e, hq⟩⟩
  | [], _ :: _, h => h.elim
  | _ :: _, [], h => h.elim
  | _ :: _, .BoolOp .. :: _, h => h.elim
  | _ :: _, .NamedExpr .. :: _, h => h.elim
  | _ :: _, .BinOp .. :: _, h => h.elim
  | _ :: _, .UnaryOp .. :: _, h => h.elim
  | _ :: _, .Lambda .. :: _, h => h.elim
  | _ :: _, .IfExp .. :: _, h => h.elim
  | _ :: _, .Dict .. :: _, h => h.elim
  | _ :: _, .Set .. :: _, h => h.elim
  | _ :: _, .ListComp .. :: _, h => h.elim
  | _ :: _, .SetComp .. :: _, h => h.elim
  | _ :: _, .DictComp .. :: _, h => h.elim
  | _ :: _, .GeneratorExp .. :: _, h => h.elim
  | _ :: _, .Yield .. :: _, h => h.elim
  | _ :: _, .Compare .. :: _, h => h.elim
  | _ :: _, .Call .. :: _, h => h.elim
  | _ :: _, .Constant .. :: _, h => h.elim
  | _ :: _, .Attribute .. :: _, h => h.elim
  | _ :: _, .Subscript .. :: _, h => h.elim
  | _ :: _, .Starred .. :: _, h => h.elim
  | _ :: _, .List .. :: _, h => h.elim
  | _ :: _, .Tuple .. :: _, h => h.elim
  | _ :: _, .Slice .. :: _, h => h.elim
theorem tgL_len {X : Cx} {env : Env} : ∀ {is : List Nat} {ts : List Expr}, TgL X is ts → (assignEach ts env).length = is.length ∧ (assignEach ts env).findIdx? (·.1) = none := by
  intro is
  induction is with
  | nil =>
    intro ts h
    cases ts with
    | nil => exact ⟨rfl, rfl⟩
    | cons _ _ => exact h.elim
  | cons i is ih =>
    intro ts h
    cases ts with
    | nil => exact h.elim
    | cons t ts =>
      cases t <;> first | exact h.elim | skip
      obtain ⟨h1, h2⟩ := ih h.2
      refine ⟨by simpa [assignEach] using h1, ?_⟩
      simp [assignEach]
      intro a hm
      have := (List.findIdx?_eq_none_iff.mp h2) (true, a) hm
      simp at this
theorem bindT_inv {t : Tgt} {x : D} {r r' : List Slot} (h : bindT t x r = some r') : (∃ i, t = .nm i ∧ r' = r.set i (.val x)) ∨ ∃ is ds, t = .tp is ∧ x = .tup ds ∧ is.length = ds.length ∧ r' = setAll r is ds := by
  unfold bindT at h
  split at h
  · cases h
    exact .inl ⟨_, rfl, rfl⟩
  · split at h
    · cases h
      exact .inr ⟨_, _, rfl, rfl, by assumption, rfl⟩
    · cases h
  · cases h
theorem wipe_set {i : Nat} {v : Option V} : ∀ {vs : List Nat} {σ : L2.St}, i ∈ vs → wipe (σ.set i v) vs = wipe σ vs
  | [], _, h => by cases h
  | w :: vs, σ, h => by
    unfold wipe
    by_cases e : i ∈ vs
    · rw [wipe_set e]
    · rcases List.mem_cons.mp h with q | q
      · subst q
        have : ∀ {vs : List Nat}, i ∉ vs → wipe (σ.set i v) vs = (wipe σ vs).set i v := by
          intro vs
          induction vs with
          | nil => intro _; rfl
          | cons y ys ih =>
            intro hn
            unfold wipe
            rw [ih fun z => hn (List.mem_cons_of_mem _ z), List.set_comm _ _ fun z => hn (by rw [z]; exact List.mem_cons_self)]
        rw [this e, List.set_set]
      · exact absurd q e
theorem wipe_wipe (σ : L2.St) : ∀ vs : List Nat, wipe (wipe σ vs) vs = wipe σ vs := by
  intro vs
  refine List.ext_getElem? fun i => ?_
  by_cases h : i ∈ vs
  · have q : ∀ (τ : L2.St), (wipe τ vs)[i]? = if i < τ.length then some none else none := by
      intro τ
      induction vs with
      | nil => cases h
      | cons w ws ih =>
        unfold wipe
        by_cases e : w = i
        · subst e
          by_cases hl : w < τ.length
          · rw [List.getElem?_set_self (by rw [wipe_length]; exact hl), if_pos hl]
          · rw [List.getElem?_eq_none (by rw [List.length_set, wipe_length]; omega), if_neg hl]
        · rw [List.getElem?_set_ne e]
          exact ih ((List.mem_cons.mp h).resolve_left fun z => e z.symm)
    rw [q, q, wipe_length]
  · rw [wipe_get h]
theorem wipe_setSt {vs : List Nat} : ∀ {is : List Nat} {ws : List V} {σ : L2.St}, (∀ i ∈ is, i ∈ vs) → wipe (setSt σ is ws) vs = wipe σ vs
  | [], _, _, _ => by simp [setSt]
  | _ :: _, [], _, _ => by simp [setSt]
  | i :: is, w :: ws, σ, h => by
    have e : setSt σ (i :: is) (w :: ws) = setSt (σ.set i (some w)) is ws := rfl
    rw [e, wipe_setSt fun j hj => h j (List.mem_cons_of_mem _ hj), wipe_set (h i List.mem_cons_self)]
section
variable {K : PySem.W.Frag} {M : Addr → Prop} {O : Nat → Option Addr} {G : List Addr} {H : Hp} {m : Mu}
theorem Rep.setAll : ∀ {is : List Nat} {ds : List D} {vs : List V} {σ : L2.St} {r : List Slot}, Rep K M O G σ H r m → Rps K (Bad M O G) G H ds vs → Rep K M O G (Mi.setSt σ is vs) H (Mi.setAll r is ds) m
  | [], _, _, _, _, R, _ => by simpa [Mi.setSt, Mi.setAll] using R
  | _ :: _, _, _, _, _, R, .nil => by simpa [Mi.setSt, Mi.setAll] using R
  | i :: is, d :: ds, v :: vs, σ, r, R, .cons h t => by
    show Rep K M O G (Mi.setSt (σ.set i (some v)) is vs) H (Mi.setAll (r.set i (.val d)) is ds) m
    exact Rep.setAll (R.set h) t
end
/-- a target's reading -/
def tTg (K : PySem.W.Frag) (t : Tgt) : TG := fun v σ H Q => ∃ M O G r m x r', Rep K M O G σ H r m ∧ Rp K (Bad M O G) G H x v ∧ bindT t x r = some r' ∧
  ∀ σ', Rep K M O G σ' H r' m → (∀ vs, (∀ i ∈ tgS t, i ∈ vs) → wipe σ' vs = wipe σ vs) → Q σ' H
theorem pg_tg {X : Cx} (hN : X.N.Nodup) (hc : X.calm = true) {t : Tgt} {e : Expr} (h : TgOk X t e) : PG X e (tTg X.K t) := by
  refine ⟨fun pins s σ H v u Q I rv hq => ?_⟩
  obtain ⟨M, O, G, r, m, x, r', R, p, b, hq⟩ := hq
  rcases bindT_inv b with ⟨i, rfl, rfl⟩ | ⟨is, ds, rfl, rfl, hl, rfl⟩
  · cases e <;> first | exact h.elim | skip
    obtain ⟨h1, h2, h3⟩ := h
    exact (pg_name hN h1 h2 h3).run pins s σ H v u Q I rv (hq _ (R.set p) fun vs hv => wipe_set (hv i (by simp [tgSlots])))
  · cases e <;> first | exact h.elim | skip
    rename_i ts k pos
    cases p with
    | @tup a xs _ p1 p2 =>
      have hh : TgL X is ts := h
      have e2 := p2.length
      refine (pg_tup (n := is.length) hc (pgs_names hN hh) (tgL_len hh).1 (tgL_len hh).2).run pins s σ H _ u Q I rv ⟨a, xs, rfl, p1, by omega, by omega, ?_⟩
      exact hq _ (R.setAll p2) fun vs hv => wipe_setSt hv

/-! ### comprehensions -/
section
variable {K : PySem.W.Frag} {M : Addr → Prop} {O : Nat → Option Addr} {G G1 : List Addr} {H H1 : Hp} {m : Mu}
/-- .. none of the own lists looked at is at p -/
def RwN (K : PySem.W.Frag) (B : Addr → Prop) (G : List Addr) (H : Hp) (p : Addr) (d : D) (v : V) : Prop := Rp K B G H d v ∨ ∃ ds a xs, d = .lst ds ∧ v = .ref a ∧ H a = some (.lst xs) ∧ Rps K B G H ds xs ∧ a ∉ G ∧ a ≠ p
inductive RwNs (K : PySem.W.Frag) (B : Addr → Prop) (G : List Addr) (H : Hp) (p : Addr) : List D → List V → Prop
  | nil : RwNs K B G H p [] []
  | cons {d : D} {ds : List D} {v : V} {vs : List V} : RwN K B G H p d v → RwNs K B G H p ds vs → RwNs K B G H p (d :: ds) (v :: vs)
theorem RwN.rw {B : Addr → Prop} {p : Addr} {d : D} {v : V} (h : RwN K B G H p d v) : Rw K B G H d v := h.imp id fun ⟨ds, a, xs, h1, h2, h3, h4, h5, _⟩ => ⟨ds, a, xs, h1, h2, h3, h4, h5⟩
theorem RwNs.rws {B : Addr → Prop} {p : Addr} : ∀ {ds : List D} {vs : List V}, RwNs K B G H p ds vs → Rws K B G H ds vs
  | _, _, .nil => .nil
  | _, _, .cons a b => .cons a.rw b.rws
theorem RwNs.map {B B' : Addr → Prop} {p : Addr} {G' : List Addr} {H' : Hp} (h : ∀ d v, RwN K B G H p d v → RwN K B' G' H' p d v) : ∀ {ds : List D} {vs : List V}, RwNs K B G H p ds vs → RwNs K B' G' H' p ds vs
  | _, _, .nil => .nil
  | _, _, .cons a b => .cons (h _ _ a) (b.map h)
/-- a new list is laid: it is forbidden -/
theorem Rws.forbid {σ : L2.St} {r : List Slot} (R : Rep K M O G σ H r m) {p : Addr} (hp : H p = none) {xs : List V} : ∀ {ds : List D} {vs : List V}, Rws K (Bad M O G) G H ds vs → RwNs K (Bad (Plus M p) O G) G (upd H p (.lst xs)) p ds vs
  | _, _, .nil => .nil
  | _, _, .cons a b => .cons (by
      rcases Rw.forbid (xs := xs) R hp a with q | ⟨es, a', ys, e1, e2, e3, e4, e5⟩
      · exact .inl q
      · rcases a with z | ⟨es2, a2, ys2, f1, f2, f3, f4, f5⟩
        · have := Rps.forbid (xs := xs) R hp (.cons z .nil)
          cases this with
          | cons q _ => exact .inl q
        · rw [e2] at f2
          cases f2
          refine .inr ⟨es, a', ys, e1, e2, e3, e4, e5, fun z => ?_⟩
          rw [z, hp] at f3
          cases f3) (Rws.forbid R hp b)
theorem RwN.grow {σ : L2.St} {r : List Slot} (R : Rep K M O G σ H r m) (g : Grow G H G1 H1) {p : Addr} {d : D} {v : V} (h : RwN K (Bad M O G) G H p d v) : RwN K (Bad M O G1) G1 H1 p d v := by
  rcases h with h | ⟨ds, a, xs, e, e2, h1, h2, h3, h4⟩
  · exact .inl (R.rp g h)
  · exact .inr ⟨ds, a, xs, e, e2, (g.keep a _ h1 h3).1, R.rps g h2, (g.keep a _ h1 h3).2, h4⟩
theorem RwN.off {B : Addr → Prop} {p : Addr} {xs ys : List V} (hb : B p) (hp : H p = some (.lst xs)) {d : D} {v : V} (h : RwN K B G H p d v) : RwN K B G (upd H p (.lst ys)) p d v := by
  rcases h with h | ⟨ds, a, zs, e, e2, h1, h2, h3, h4⟩
  · exact .inl (h.off hb hp)
  · exact .inr ⟨ds, a, zs, e, e2, by rw [upd_ne h4]; exact h1, h2.off hb hp, h3, h4⟩
/-- .. though the list at p has changed (it was not there at first) -/
theorem Grow.off {p : Addr} {o : HO} (g : Grow G H G1 H1) (hp : H p = none) : Grow G H G1 (upd H1 p o) := ⟨fun a o' e n => ⟨by
  rw [upd_ne fun z => by rw [z, hp] at e; cases e]
  exact (g.keep a o' e n).1, (g.keep a o' e n).2⟩, g.pre⟩
/-- back from a comprehension's slots to the def's -/
theorem Rep.back {σ σ2 : L2.St} {r r2 : List Slot} {m2 : Mu} (R : Rep K M O G σ H r m) (g : Grow G H G1 H1) (R2 : Rep K M O G1 σ2 H1 r2 m2) : Rep K M O G1 σ H1 r m2 := R.up g R2.down
/-- a list that this step alone keeps, looked at -/
theorem Rep.hold {σ : L2.St} {r : List Slot} {p : Addr} (R : Rep K (Plus M p) O G σ H r m) (hm : ¬ M p) {xs : List V} {ds : List D} (hp : H p = some (.lst xs)) (h : Rps K (Bad (Plus M p) O G) G H ds xs) : Rep K M O G σ H r m ∧ Rp K (Bad M O G) G H (.lst ds) (.ref p) := by
  have up : ∀ a, Bad M O G a → Bad (Plus M p) O G a := fun a b => b.mono (fun _ z => .inl z) fun _ i z => ⟨i, z⟩
  refine ⟨R.weakM fun a z => .inl z, .lst (fun b => ?_) hp (h.mono up)⟩
  rcases b with b | b | ⟨i, b⟩
  · exact hm b
  · exact R.stM p b (.inr rfl)
  · exact (R.ownH i p b).2.1 (.inr rfl)
end

/-- behind an evaluation that makes a new list, which nobody else holds yet -/
def WantN (K : PySem.W.Frag) (M : Addr → Prop) (O : Nat → Option Addr) (σ : L2.St) (r : List Slot) (G : List Addr) (H : Hp) (x : Res D) (Q : VK) : Prop :=
  match x with
  | .ok (.lst ds) m' => ∀ p xs H' G', H p = none → Grow G H G' H' → ¬ M p → Rep K (Plus M p) O G' σ H' r m' → H' p = some (.lst xs) → Rps K (Bad (Plus M p) O G') G' H' ds xs → Q (.ref p) H'
  | _ => False
def tN (K : PySem.W.Frag) (f : List Slot → Mu → Res D) : TE := fun σ H Q => ∃ M O G r m, Rep K M O G σ H r m ∧ WantN K M O σ r G H (f r m) Q
def lstO : Res D → Bool
  | .ok (.lst _) _ => true
  | .ok _ _ => false
  | _ => true
theorem Want.new {K : PySem.W.Frag} {M : Addr → Prop} {O : Nat → Option Addr} {σ : L2.St} {r : List Slot} {G : List Addr} {H : Hp} {x : Res D} {Q : VK} (w : Want K M O σ r (Rp K) G H x Q) (h : lstO x = true) : WantN K M O σ r G H x Q := by
  cases x with
  | ex _ _ _ => exact w
  | bad => exact w
  | ok d m =>
    cases d <;> first | (cases h; done) | skip
    intro p xs H' G' _ g hM R hp hx
    obtain ⟨Rf, pf⟩ := R.hold hM hp hx
    exact w _ H' G' g Rf pf
theorem mapIf_nil {c : D → Mu → Res Bool} {f : D → Mu → Res D} {m : Mu} : mapIfR c f [] m = .ok [] m := by simp [mapIfR]
/-- the items, with a test of each (or none) -/
theorem comp_core {X : Cx} {fi : List Slot → Mu → Res (List D)} {ik : IK} {t : Tgt} {own : List (Str × Nat)} {c : List Slot → Mu → Res Bool} {f : List Slot → Mu → Res D} {tt : TT} {te : TE}
    (ht : ∀ σ H Q, tG X.K rB c σ H Q → tt σ H Q) (he : ∀ σ H Q, tG X.K (Rp X.K) f σ H Q → te σ H Q) (hv : ∀ i ∈ tgS t, i ∈ own.map (·.2)) {σ : L2.St} {H : Hp} {Q : VK}
    {M : Addr → Prop} {O : Nat → Option Addr} {G : List Addr} {r : List Slot} {m : Mu} (R : Rep X.K M O G σ H r m)
    (w : WantN X.K M O σ r G H ((fi r m).bind fun ds m => match itemsD ik ds with
      | some xs => lstR (mapIfR (fun x m => match bindT t x (wipeS r (own.map (·.2))) with | some r' => c r' m | none => .bad)
          (fun x m => match bindT t x (wipeS r (own.map (·.2))) with | some r' => f r' m | none => .bad) xs m)
      | none => .bad) Q) : tLc (tIt X.K (Rws X.K) fi ik) (tTg X.K t) tt te (own.map (·.2)) σ H Q := by
  refine ⟨M, O, G, r, m, R, ?_⟩
  generalize fi r m = y at w
  cases y with
  | ex _ _ _ => exact False.elim w
  | bad => exact False.elim w
  | ok ds m1 =>
    show ∃ xs, _
    replace w : WantN X.K M O σ r G H (match itemsD ik ds with
      | some xs => lstR (mapIfR (fun x m => match bindT t x (wipeS r (own.map (·.2))) with | some r' => c r' m | none => .bad)
          (fun x m => match bindT t x (wipeS r (own.map (·.2))) with | some r' => f r' m | none => .bad) xs m1)
      | none => .bad) Q := w
    cases e : itemsD ik ds with
    | none =>
      rw [e] at w
      exact False.elim w
    | some xs =>
      rw [e] at w
      dsimp only at w
      refine ⟨xs, rfl, fun J H1 G1 svs g1 R1 S1 F p hp => ?_⟩
      generalize hC : (fun (x : D) (m : Mu) => match bindT t x (wipeS r (own.map (·.2))) with | some r' => c r' m | none => Res.bad) = C at w
      generalize hF : (fun (x : D) (m : Mu) => match bindT t x (wipeS r (own.map (·.2))) with | some r' => f r' m | none => Res.bad) = F' at w
      cases e2 : mapIfR C F' xs m1 with
      | ex _ _ _ =>
        rw [e2] at w
        exact False.elim w
      | bad =>
        rw [e2] at w
        exact False.elim w
      | ok ys mz =>
        rw [e2] at w
        have w' : fit ys.length = true ∧ WantN X.K M O σ r G H (.ok (.lst ys) mz) Q := by
          by_cases hf : fit ys.length = true
          · exact ⟨hf, by simpa [lstR, hf] using w⟩
          · have : False := by simpa [lstR, hf, WantN] using w
            exact this.elim
        obtain ⟨hfit, w⟩ := w'
        have hM : ¬ M p := fun z => R1.dom p z hp
        -- the invariant
        refine ⟨fun i k Hh => k = xs.length - i ∧ i ≤ xs.length ∧ ∃ Gh mh done rest acc, Rep X.K (Plus M p) O Gh σ Hh r mh ∧ Grow G1 H1 Gh Hh ∧ RwNs X.K (Bad (Plus M p) O Gh) Gh Hh p ds svs ∧
          Hh p = some (.lst acc) ∧ Rps X.K (Bad (Plus M p) O Gh) Gh Hh done acc ∧ mapIfR C F' (xs.drop i) mh = .ok rest mz ∧ ys = done ++ rest, ⟨xs.length, by simp, Nat.zero_le _, G1, m1, [], ys, [], R1.forbid hp, (Grow.refl G1 H1).off hp, S1.forbid R1 hp, upd_same, .nil, by simpa using e2, rfl⟩, ?_⟩
        rintro i k Hh ⟨rfl, hi, Gh, mh, done, rest, acc, Rh, gh, Sh, hD, hacc, hmap, hys⟩
        by_cases hlt : i < xs.length
        · obtain ⟨hgo, hyl⟩ := F.1 i xs[i] _ _ _ Sh.rws (List.getElem?_eq_getElem hlt)
          refine .inr ⟨hgo, fun Hn => xs.length - (i + 1) = xs.length - (i + 1) ∧ i + 1 ≤ xs.length ∧ ∃ Gh mh done rest acc, Rep X.K (Plus M p) O Gh σ Hn r mh ∧ Grow G1 H1 Gh Hn ∧ RwNs X.K (Bad (Plus M p) O Gh) Gh Hn p ds svs ∧
            Hn p = some (.lst acc) ∧ Rps X.K (Bad (Plus M p) O Gh) Gh Hn done acc ∧ mapIfR C F' (xs.drop (i + 1)) mh = .ok rest mz ∧ ys = done ++ rest, fun H' h' => ⟨_, by omega, h'⟩, fun v H2 hy => ?_⟩
          obtain ⟨s2, p2⟩ := hyl v H2 hy
          have R2 := Rh.same s2
          have RW := R2.wipe (own.map (·.2))
          rw [List.drop_eq_getElem_cons hlt] at hmap
          cases eb : bindT t xs[i] (wipeS r (own.map (·.2))) with
          | none =>
            have : mapIfR C F' (xs[i] :: xs.drop (i + 1)) mh = .bad := by
              rw [← hC]
              simp [mapIfR, eb]
            rw [this] at hmap
            cases hmap
          | some r2 =>
            have hc : C xs[i] mh = c r2 mh := by
              rw [← hC]
              simp [eb]
            have hf' : ∀ m', F' xs[i] m' = f r2 m' := fun m' => by
              rw [← hF]
              simp [eb]
            refine ⟨Plus M p, O, Gh, _, mh, xs[i], r2, RW, p2, eb, fun σ2 R3 hw => ⟨?_, ?_⟩⟩
            · rw [hw _ hv]
              exact wipe_wipe _ _
            refine ht _ _ _ ⟨Plus M p, O, Gh, r2, mh, R3, ?_⟩
            rw [← hc]
            cases ec : C xs[i] mh with
            | bad => simp [mapIfR, ec] at hmap
            | ex _ _ _ => simp [mapIfR, ec] at hmap
            | ok b m3 =>
              intro b' H3 G3 g3 R4 eb'
              cases eb'
              have g2 : Grow Gh Hh G3 H3 := (Grow.same s2).trans g3
              have RB : Rep X.K (Plus M p) O G3 σ H3 r m3 := Rh.back g2 R4
              have Sh3 := Sh.map fun _ _ => RwN.grow Rh g2
              have hpG : ∀ {Gx : List Addr} {Hx : Hp} {mx : Mu} {σx : L2.St} {rx : List Slot}, Rep X.K (Plus M p) O Gx σx Hx rx mx → p ∉ Gx := fun Rx z => Rx.stM p z (.inr rfl)
              have hD3 : H3 p = some (.lst acc) := (g2.keep p _ hD (hpG Rh)).1
              cases b with
              | false =>
                refine ⟨rfl, hlt, G3, m3, done, rest, acc, RB, gh.trans g2, Sh3, hD3, Rh.rps g2 hacc, ?_, hys⟩
                simpa [mapIfR, ec] using hmap
              | true =>
                refine he _ _ _ ⟨Plus M p, O, G3, r2, m3, R4, ?_⟩
                rw [← hf']
                cases ef : F' xs[i] m3 with
                | bad => simp [mapIfR, ec, ef] at hmap
                | ex _ _ _ => simp [mapIfR, ec, ef] at hmap
                | ok y m4 =>
                  intro yv H4 G4 g4 R5 py
                  have g5 : Grow Gh Hh G4 H4 := g2.trans g4
                  have hD4 : H4 p = some (.lst acc) := (g5.keep p _ hD (hpG Rh)).1
                  have hacc4 := Rh.rps g5 hacc
                  cases er : mapIfR C F' (xs.drop (i + 1)) m4 with
                  | bad => simp [mapIfR, ec, ef, er] at hmap
                  | ex _ _ _ => simp [mapIfR, ec, ef, er] at hmap
                  | ok zs m5 =>
                    have hz : y :: zs = rest ∧ m5 = mz := by simpa [mapIfR, ec, ef, er] using hmap
                    obtain ⟨hz1, hz2⟩ := hz
                    subst hz2
                    refine ⟨acc, hD4, ?_, rfl, hlt, G4, m4, done ++ [y], zs, acc ++ [yv], (Rh.back g5 R5).offM (.inr rfl) hD4, (gh.trans g5).off hp, (Sh.map fun _ _ => RwN.grow Rh g5).map fun _ _ => RwN.off (.inl (.inr rfl)) hD4, upd_same, ?_, er, ?_⟩
                    · have h1 := hacc.length
                      have h2 : ys.length ≤ sizeLine := fit_le hfit
                      rw [hys, ← hz1, List.length_append, List.length_cons] at h2
                      omega
                    · exact (hacc4.append (.cons py .nil)).off (.inl (.inr rfl)) hD4
                    · rw [hys, ← hz1]
                      simp
        · have ei : i = xs.length := by omega
          subst ei
          refine .inl ⟨F.2 _ _ _ _ Sh.rws (Nat.le_refl _), ?_⟩
          rw [List.drop_length] at hmap
          have hz : rest = [] ∧ mz = mh := by simpa [mapIfR] using hmap.symm
          obtain ⟨rfl, rfl⟩ := hz
          rw [List.append_nil] at hys
          subst hys
          have hp0 : H p = none := by
            cases eh : H p with
            | none => rfl
            | some o =>
              by_cases hg : p ∈ G
              · obtain ⟨n, hn⟩ := List.getElem?_of_mem hg
                exact absurd (List.mem_of_getElem? ((g1.trans gh).pre n p hn)) fun z => Rh.stM p z (.inr rfl)
              · have := (g1.keep p o eh hg).1
                rw [hp] at this
                cases this
          exact w p acc Hh Gh hp0 (g1.trans gh) hM Rh hD hacc
end Mi

set_option linter.all false
set_option maxRecDepth 100000
set_option maxHeartbeats 4000000
/-! Mi10: what a def promises; the readings of the forms. -/
namespace Mi
open PySem PySem.Spec PyProof.Rows L2

/-! ### what is known of the whole -/
def WantF (K : PySem.W.Frag) (M : Addr → Prop) (G : List Addr) (H : Hp) (x : Res D) (Q : VK) : Prop :=
  match x with
  | .ok d m' => ∀ v H' G', Grow G H G' H' → RepF K M G' H' m' → Rp K (BadF M G') G' H' d v → Q v H'
  | .ex _ _ _ => False
  | .bad => False
def permL {α : Type} (l : List α) (ord : List Nat) : List α := ord.filterMap fun i => l[i]?
/-- a def runs as the small one says -/
structure FOk (P : Program) (w : World) (K : PySem.W.Frag) (mg : Str → Option Value) (base : Heap) (k : Nat) (kws : List (Nat × List Str × List Nat)) (x : Str) (call : List D → Mu → Res D) (fa : Addr) (fd : FuncData) (ps : List Str) : Prop where
  at_ : mg x = some (.ref fa)
  keep : PySem.W.keepIn K (.ref fa) = true
  pos : ∀ us : List Value, us.length = ps.length → bindArgs fd ⟨us, []⟩ = pure (ps.zip us)
  kw : ∀ q ∈ kws, ∀ us ws : List Value, us.length = q.1 → ws.length = q.2.1.length → (permL (us ++ ws) q.2.2).length = ps.length → bindArgs fd ⟨us, q.2.1.zip ws⟩ = pure (ps.zip (permL (us ++ ws) q.2.2))
  len : ∀ ds m, call ds m ≠ .bad → ds.length = ps.length
  run : ∀ (A : Around) (outer : List Env) (s : Shared) (H : Hp) (args : Args) (us : List Value) (vs : List V) (ds : List D) (G : List Addr) (m : Mu) (M : Addr → Prop) (Q : VK), Room k A → A.guards = some [] → L2.Env0 P w K mg base A outer s H →
    BindsTo s fd args (ps.zip us) → Vals vs us → RepF K M G H m → Rps K (BadF M G) G H ds vs → WantF K M G H (call ds m) Q → codeAny (model P w) A (.call (.ref fa) args) (CR CX0 outer P w H s Q E0) s
def bltNames : List Str := ["len", "all", "any", "sum", "tuple", "list", "sorted", "abs", "int", "str", "repr", "max", "min", "divmod", "bool", "isinstance", "range", "enumerate", "zip", "set"]
def kwsOf (C : Cc) (f : Nat) : List (Nat × List Str × List Nat) := C.kws.filterMap fun q => if q.1 = f then some q.2 else none
/-- what the context gives -/
structure Kn (C : Cc) (g : Mi.Env0) (k : Nat) (X : Cx) : Prop where
  N : X.N = C.N
  nd : C.N.Nodup
  calm : X.calm = true
  room : Room k X.A
  gd : X.A.guards = some []
  blt : ∀ x ∈ bltNames, X.mg x = none
  sm : ∃ mm, X.base.Ns sysModules mm
  con : ∀ (i : Nat) (x : Str) (d : D), C.gls[i]? = some x → g.consts[i]? = some d → ∃ u v, X.mg x = some u ∧ RelV v u ∧ ∀ B G H, Rp X.K B G H d v
  fn : ∀ (f : Nat) (x : Str), C.fns[f]? = some x → ∃ fa fd ps, FOk X.prog X.w X.K X.mg X.base k (kwsOf C f) x (g.call f) fa fd ps
theorem Kn.blk {C : Cc} {g : Mi.Env0} {k : Nat} {X : Cx} (h : Kn C g k X) (s : Shared) (H : Hp) (scope : Scope) (cenv : Env) (fp : List Addr) : Kn C g k (X.blk s H scope cenv fp) :=
  ⟨h.N, h.nd, h.calm, h.room, h.gd, h.blt, h.sm, h.con, h.fn⟩
theorem Kn.units {C : Cc} {g : Mi.Env0} {k : Nat} {X : Cx} (h : Kn C g k X) : X.A.units + 64 < cLine := h.room.units

/-! ### readings in rows -/
def Stab (K : PySem.W.Frag) {α β : Type} (P : Rel α β) : Prop := ∀ {M : Addr → Prop} {O : Nat → Option Addr} {G : List Addr} {σ : L2.St} {H : Hp} {r : List Slot} {m : Mu} {G1 : List Addr} {H1 : Hp} {x : α} {v : β},
  Rep K M O G σ H r m → Grow G H G1 H1 → P (Bad M O G) G H x v → P (Bad M O G1) G1 H1 x v
theorem stab_rp {K : PySem.W.Frag} : Stab K (Rp K) := fun R g h => R.rp g h
theorem stab_rw {K : PySem.W.Frag} : Stab K (Rw K) := fun R g h => R.rw g h
theorem stab_rps {K : PySem.W.Frag} : Stab K (Rps K) := fun R g h => R.rps g h
theorem stab_rb {K : PySem.W.Frag} : Stab K rB := fun _ _ h => h
section
variable {K : PySem.W.Frag} {α β γ δ ε ζ η θ : Type} {Pa : Rel α β} {Pb : Rel γ δ} {Pd : Rel η θ} {Pc : Rel ε ζ} {σ : L2.St} {H : Hp}
theorem tG1 {fa : List Slot → Mu → Res α} {k : List Slot → α → Mu → Res ε} {Q : ζ → Hp → Prop} (h : tG K Pc (fun r m => (fa r m).bind fun x m => k r x m) σ H Q) :
    tG K Pa fa σ H fun v H1 => ∃ M O G r m x, Rep K M O G σ H1 r m ∧ Pa (Bad M O G) G H1 x v ∧ Want K M O σ r Pc G H1 (k r x m) Q := by
  obtain ⟨M, O, G, r, m, R, w⟩ := h
  refine ⟨M, O, G, r, m, R, (Want.bind (P := Pa) w).mono fun v H' ⟨d, m1, G1, g1, R1, p1, w1⟩ => ⟨M, O, G1, r, m1, d, R1, p1, w1⟩⟩
theorem tG2 (sa : Stab K Pa) {fa : List Slot → Mu → Res α} {fb : List Slot → Mu → Res γ} {k : List Slot → α → γ → Mu → Res ε} {Q : ζ → Hp → Prop}
    (h : tG K Pc (fun r m => (fa r m).bind fun x m => (fb r m).bind fun y m => k r x y m) σ H Q) :
    tG K Pa fa σ H fun v H1 => tG K Pb fb σ H1 fun u H2 => ∃ M O G r m x y, Rep K M O G σ H2 r m ∧ Pa (Bad M O G) G H2 x v ∧ Pb (Bad M O G) G H2 y u ∧ Want K M O σ r Pc G H2 (k r x y m) Q := by
  refine (tG1 (Pa := Pa) h).imp fun v H1 ⟨M, O, G, r, m, x, R, p, w⟩ => ?_
  refine ⟨M, O, G, r, m, R, (Want.bind (P := Pb) w).mono fun u H2 ⟨y, m2, G2, g2, R2, p2, w2⟩ => ⟨M, O, G2, r, m2, x, y, R2, sa R g2 p, p2, w2⟩⟩
theorem tG3 (sa : Stab K Pa) (sb : Stab K Pb) {fa : List Slot → Mu → Res α} {fb : List Slot → Mu → Res γ} {fd : List Slot → Mu → Res η} {k : List Slot → α → γ → η → Mu → Res ε} {Q : ζ → Hp → Prop}
    (h : tG K Pc (fun r m => (fa r m).bind fun x m => (fb r m).bind fun y m => (fd r m).bind fun z m => k r x y z m) σ H Q) :
    tG K Pa fa σ H fun v H1 => tG K Pb fb σ H1 fun u H2 => tG K Pd fd σ H2 fun t H3 => ∃ M O G r m x y z, Rep K M O G σ H3 r m ∧ Pa (Bad M O G) G H3 x v ∧ Pb (Bad M O G) G H3 y u ∧ Pd (Bad M O G) G H3 z t ∧ Want K M O σ r Pc G H3 (k r x y z m) Q := by
  refine (tG2 (Pa := Pa) (Pb := Pb) sa h).imp fun v H1 hv => hv.imp fun u H2 ⟨M, O, G, r, m, x, y, R, p, q, w⟩ => ?_
  refine ⟨M, O, G, r, m, R, (Want.bind (P := Pd) w).mono fun t H3 ⟨z, m3, G3, g3, R3, p3, w3⟩ => ⟨M, O, G3, r, m3, x, y, z, R3, sa R g3 p, sb R g3 q, p3, w3⟩⟩
/-- the evaluation ends with a value -/
theorem Want.ok {M : Addr → Prop} {O : Nat → Option Addr} {r : List Slot} {G : List Addr} {x : Res ε} {Q : ζ → Hp → Prop} (w : Want K M O σ r Pc G H x Q) : ∃ d m, x = .ok d m := by
  cases x with
  | ok d m => exact ⟨d, m, rfl⟩
  | ex _ _ _ => exact False.elim w
  | bad => exact False.elim w
theorem bind_ok {x : Res α} {k : α → Mu → Res ε} {d : ε} {m : Mu} (h : x.bind k = .ok d m) : ∃ a m1, x = .ok a m1 ∧ k a m1 = .ok d m := by
  cases x with
  | ok a m1 => exact ⟨a, m1, rfl, h⟩
  | ex _ _ _ => cases h
  | bad => cases h
theorem of_ok {o : Option D} {m m' : Mu} {d : D} (h : Res.of o m = .ok d m') : o = some d := by
  cases o with
  | none => cases h
  | some a =>
    cases h
    rfl
theorem Want.asB {M : Addr → Prop} {O : Nat → Option Addr} {r : List Slot} {G : List Addr} {x : Res D} {Q : Bool → Hp → Prop} (w : Want K M O σ r rB G H (Mi.asB x) Q) : Want K M O σ r (Rp K) G H x fun v H1 => ∃ c, v = .bl c ∧ Q c H1 := by
  cases x with
  | ex _ _ _ => exact False.elim w
  | bad => exact False.elim w
  | ok d m =>
    cases d <;> first | exact False.elim w | skip
    intro v H' G' g R p
    cases p
    exact ⟨_, rfl, w _ H' G' g R rfl⟩
theorem tG_asB {f : List Slot → Mu → Res D} {Q : Bool → Hp → Prop} (h : tG K rB (fun r m => Mi.asB (f r m)) σ H Q) : tG K (Rp K) f σ H fun v H1 => ∃ c, v = .bl c ∧ Q c H1 := by
  obtain ⟨M, O, G, r, m, R, w⟩ := h
  exact ⟨M, O, G, r, m, R, w.asB⟩
/-- two ways to the same -/
theorem tG.eq {f f' : List Slot → Mu → Res ε} {Q : ζ → Hp → Prop} (h : tG K Pc f σ H Q) (e : ∀ r m, f r m = f' r m) : tG K Pc f' σ H Q := by
  obtain ⟨M, O, G, r, m, R, w⟩ := h
  exact ⟨M, O, G, r, m, R, by rw [← e]; exact w⟩
theorem tG.again {M : Addr → Prop} {O : Nat → Option Addr} {r : List Slot} {G : List Addr} {m : Mu} {f : List Slot → Mu → Res ε} {Q : ζ → Hp → Prop} (R : Rep K M O G σ H r m) (w : Want K M O σ r Pc G H (f r m) Q) : tG K Pc f σ H Q := ⟨M, O, G, r, m, R, w⟩
theorem rp_rw {K : PySem.W.Frag} {f : List Slot → Mu → Res D} {Q : VK} (h : tG K (Rw K) f σ H Q) : tG K (Rp K) f σ H Q := by
  obtain ⟨M, O, G, r, m, R, w⟩ := h
  refine ⟨M, O, G, r, m, R, ?_⟩
  cases e : f r m with
  | ok d m' =>
    rw [e] at w
    exact fun v H' G' g R' p => w v H' G' g R' (.inl p)
  | ex _ _ _ =>
    rw [e] at w
    exact w
  | bad =>
    rw [e] at w
    exact w
end

/-! ### the forms, one by one -/
section
variable {X : Cx} {a b c : Expr} {fa fb fc : List Slot → Mu → Res D} {pos p : Pos}
abbrev sE (X : Cx) (e : Expr) (f : List Slot → Mu → Res D) : Prop := PE X e (tG X.K (Rp X.K) f)
abbrev sX (X : Cx) (e : Expr) (f : List Slot → Mu → Res D) : Prop := PE X e (tG X.K (Rw X.K) f)
abbrev sT (X : Cx) (e : Expr) (f : List Slot → Mu → Res D) : Prop := PT X e (tG X.K rB fun r m => asB (f r m))
abbrev sA (X : Cx) (es : List Expr) (f : List Slot → Mu → Res (List D)) : Prop := PA X es (tG X.K (Rps X.K) f)

theorem f_const (d : D) (v : V) (h : PE X a (tC v)) (hd : ∀ B G H, Rp X.K B G H d v) : sE X a fun _ m => .ok d m :=
  pe_imp h fun σ H Q ⟨M, O, G, r, m, R, w⟩ => w v H G (Grow.refl G H) R (hd _ _ _)
theorem f_var {i : Nat} (h : PE X a (tVar i)) : sE X a fun r m => match r[i]? with | some (.val d) => .ok d m | _ => .bad :=
  pe_imp h fun σ H Q ⟨M, O, G, r, m, R, w⟩ => by
    dsimp only at w
    cases e : r[i]? with
    | none =>
      rw [e] at w
      exact False.elim w
    | some sl =>
      rw [e] at w
      cases sl with
      | val d =>
        obtain ⟨v, h1, h2⟩ := R.val i d e
        exact ⟨v, h1, w v H G (Grow.refl G H) R h2⟩
      | un => exact False.elim w
      | own ds => exact False.elim w
theorem f_view {i : Nat} (h : PE X a (tVar i)) : sX X a fun r m => match r[i]? with | some (.own ds) => .ok (.lst ds) m | some (.val d) => .ok d m | _ => .bad :=
  pe_imp h fun σ H Q ⟨M, O, G, r, m, R, w⟩ => by
    dsimp only at w
    cases e : r[i]? with
    | none =>
      rw [e] at w
      exact False.elim w
    | some sl =>
      rw [e] at w
      cases sl with
      | val d =>
        obtain ⟨v, h1, h2⟩ := R.val i d e
        exact ⟨v, h1, w v H G (Grow.refl G H) R (.inl h2)⟩
      | un => exact False.elim w
      | own ds =>
        obtain ⟨q, xs, h1, h2, h3, h4⟩ := R.own i ds e
        exact ⟨.ref q, h2, w _ H G (Grow.refl G H) R (.inr ⟨ds, q, xs, rfl, rfl, h3, h4, (R.ownH i q h1).2.2⟩)⟩
theorem f_rw (h : sE X a fa) : sX X a fa := pe_imp h fun _ _ _ w => rp_rw w
/-- operations -/
def eR2 (K : PySem.W.Frag) (f : D → D → Option D) : R2 := fun x y H Q => ∃ B G, r2 K B G f x y H Q
theorem f_op {o : Operator} (ha : sX X a fa) (hb : sX X b fb) : sE X (.BinOp a o b pos) fun r m => (fa r m).bind fun x m => (fb r m).bind fun y m => .of (binop o x y) m :=
  pe_imp (pe_op (r := eR2 X.K (binop o)) (fun pins s σ H x y v u Q I rx ry ⟨_, _, h⟩ => bin_sound o pins s σ H x y v u Q I rx ry h) ha hb) fun σ H Q h =>
    (tG2 stab_rw h).imp fun v H1 h1 => h1.imp fun u H2 ⟨M, O, G, r, m, x, y, R, p, q, w⟩ => ⟨_, _, x, y, p, q, R.fr, w.fits R⟩
theorem f_neg (ha : sE X a fa) : sE X (.UnaryOp .USub a pos) fun r m => (fa r m).bind fun x m => .of (negop x) m :=
  pe_imp (pe_un (r := fun x H Q => ∃ B G, r1 X.K B G negop x H Q) (fun pins s σ H x v Q I rx ⟨_, _, h⟩ => neg_sound pins s σ H x v Q I rx h) ha) fun σ H Q h =>
    (tG1 h).imp fun v H1 ⟨M, O, G, r, m, x, R, p, w⟩ => ⟨_, _, x, .inl p, R.fr, w.fits R⟩
def eB2 (K : PySem.W.Frag) (f : D → D → Option Bool) : R2 := fun x y H Q => ∃ B G, rB2 K B G f x y H Q
theorem cmpE (hu : X.A.units + 64 < cLine) (o : CmpOp) : OpR X (compareOp o) (eB2 X.K (cmpop o)) := fun pins s σ H x y v u Q I rx ry ⟨_, _, h⟩ => cmp_sound hu o pins s σ H x y v u Q I rx ry h
theorem cmp_read {K : PySem.W.Frag} {o : CmpOp} {σ : L2.St} {H : Hp} {Q : VK} (h : tG K (Rp K) (fun r m => (fa r m).bind fun x m => (fb r m).bind fun y m => .of ((cmpop o x y).map .bl) m) σ H Q) :
    tOp (eB2 K (cmpop o)) (tG K (Rw K) fa) (tG K (Rw K) fb) σ H Q :=
  (tG2 (Pa := Rw K) (Pb := Rw K) stab_rw h).imp fun v H1 h1 => h1.imp fun u H2 ⟨M, O, G, r, m, x, y, R, p, q, w⟩ => ⟨_, _, x, y, p, q, w.bool R⟩
theorem f_cmp (hu : X.A.units + 64 < cLine) {o : CmpOp} (ha : sX X a fa) (hb : sX X b fb) (hm : behindInMarks o b = false) :
    sE X (.Compare a [o] [b] pos) fun r m => (fa r m).bind fun x m => (fb r m).bind fun y m => .of ((cmpop o x y).map .bl) m :=
  pe_imp (pe_cmpR (cmpE hu o) ha hb hm) fun σ H Q h => cmp_read h
theorem ft_cmp (hu : X.A.units + 64 < cLine) {o : CmpOp} (ha : sX X a fa) (hb : sX X b fb) (hm : behindInMarks o b = false) :
    sT X (.Compare a [o] [b] pos) fun r m => (fa r m).bind fun x m => (fb r m).bind fun y m => .of ((cmpop o x y).map .bl) m :=
  pt_imp (pt_cmpR (cmpE hu o) ha hb hm) fun σ H Q h => cmp_read (tG_asB h)
abbrev chainR (o q : CmpOp) (fa fb fc : List Slot → Mu → Res D) (r : List Slot) (m : Mu) : Res D := (fa r m).bind fun x m => (fb r m).bind fun y m => match cmpop o x y with
    | some true => (fc r m).bind fun z m => .of ((cmpop q y z).map .bl) m
    | some false => .ok (.bl false) m
    | none => .bad
theorem chain_read {K : PySem.W.Frag} {o q : CmpOp} {σ : L2.St} {H : Hp} {Q : VK} (h : tG K (Rp K) (chainR o q fa fb fc) σ H Q) :
    tChain (eB2 K (cmpop o)) (eB2 K (cmpop q)) (tG K (Rp K) fa) (tG K (Rp K) fb) (tG K (Rp K) fc) σ H Q := by
  refine (tG2 (Pa := Rp K) (Pb := Rp K) stab_rp h).imp fun v H1 h1 => h1.imp fun u H2 ⟨M, O, G, r, m, x, y, R, p1, p2, w⟩ => ?_
  cases e : cmpop o x y with
  | none =>
    rw [e] at w
    exact False.elim w
  | some t =>
    rw [e] at w
    cases t with
    | false => exact ⟨_, _, x, y, .inl p1, .inl p2, false, e, false, rfl, w _ H2 G (Grow.refl G H2) R (.bl false)⟩
    | true =>
      refine ⟨_, _, x, y, .inl p1, .inl p2, true, e, true, rfl, ?_⟩
      refine ⟨M, O, G, r, m, R, (Want.bind (P := Rp K) w).mono fun t' H3 ⟨z, m3, G3, g3, R3, p3, w3⟩ => ⟨_, _, y, z, .inl (R.rp g3 p2), .inl p3, w3.bool R3⟩⟩
theorem f_cmp2 (hu : X.A.units + 64 < cLine) {o q : CmpOp} (ha : sE X a fa) (hb : sE X b fb) (hc : sE X c fc) (hm : lastMarks [o, q] [b, c] = false) : sE X (.Compare a [o, q] [b, c] pos) (chainR o q fa fb fc) :=
  pe_imp (pe_chain (cmpE hu o) (cmpE hu q) ha hb hc hm) fun σ H Q h => chain_read h
theorem ft_cmp2 (hu : X.A.units + 64 < cLine) {o q : CmpOp} (ha : sE X a fa) (hb : sE X b fb) (hc : sE X c fc) (hm : lastMarks [o, q] [b, c] = false) : sT X (.Compare a [o, q] [b, c] pos) (chainR o q fa fb fc) :=
  pt_imp (pt_chain (cmpE hu o) (cmpE hu q) ha hb hc hm) fun σ H Q h => chain_read (tG_asB h)

/-! truth -/
abbrev notR (fa : List Slot → Mu → Res D) (r : List Slot) (m : Mu) : Res D := (asB (fa r m)).bind fun b m => .ok (.bl (!b)) m
theorem f_not (ha : sE X a fa) : sE X (.UnaryOp .Not a pos) (notR fa) :=
  pe_imp (pe_not ha) fun σ H Q h => tG_asB ((tG1 (Pa := rB) h).imp fun c H1 ⟨M, O, G, r, m, x, R, e, w⟩ => by
    cases e
    exact w _ H1 G (Grow.refl G H1) R (.bl _))
theorem ft_not (ha : sT X a fa) : sT X (.UnaryOp .Not a pos) (notR fa) :=
  pt_imp (pt_not ha) fun σ H Q h => (tG1 (Pa := rB) (fa := fun r m => asB (fa r m)) (k := fun _ b m => .ok (!b) m) (Pc := rB) (h.eq fun r m => by
    show asB (notR fa r m) = _
    unfold notR
    cases fa r m with
    | ok d m => cases d <;> rfl
    | ex _ _ _ => rfl
    | bad => rfl)).imp fun c H1 ⟨M, O, G, r, m, x, R, e, w⟩ => by
      cases e
      exact w _ H1 G (Grow.refl G H1) R rfl
theorem tt_read {K : PySem.W.Frag} {σ : L2.St} {H : Hp} {ε ζ : Type} {Pc : Rel ε ζ} {k1 k2 : List Slot → Mu → Res ε} {Q : ζ → Hp → Prop} (h : tG K Pc (fun r m => (asB (fa r m)).bind fun t m => if t then k1 r m else k2 r m) σ H Q) :
    tG K rB (fun r m => asB (fa r m)) σ H fun c H1 => if c = true then tG K Pc k1 σ H1 Q else tG K Pc k2 σ H1 Q :=
  (tG1 (Pa := rB) (fa := fun r m => asB (fa r m)) (k := fun r t m => if t then k1 r m else k2 r m) h).imp fun c H1 ⟨M, O, G, r, m, x, R, e, w⟩ => by
    cases e
    cases c with
    | true => exact tG.again R w
    | false => exact tG.again R w
theorem bool_here {K : PySem.W.Frag} {σ : L2.St} {H : Hp} {b : Bool} {Q : VK} (h : tG K (Rp K) (fun _ m => .ok (.bl b) m) σ H Q) : Q (.bl b) H := by
  obtain ⟨M, O, G, r, m, R, w⟩ := h
  exact w _ H G (Grow.refl G H) R (.bl b)
theorem bool_hereT {K : PySem.W.Frag} {σ : L2.St} {H : Hp} {b : Bool} {Q : Bool → Hp → Prop} (h : tG K rB (fun _ m => .ok b m) σ H Q) : Q b H := by
  obtain ⟨M, O, G, r, m, R, w⟩ := h
  exact w _ H G (Grow.refl G H) R rfl
theorem f_ite (hc : sT X c fc) (ha : sE X a fa) (hb : sE X b fb) : sE X (.IfExp c a b pos) fun r m => (asB (fc r m)).bind fun t m => if t then fa r m else fb r m :=
  pe_imp (pe_ifExp hc ha hb) fun σ H Q h => tt_read h
theorem asB_ite {x : Res D} {f h : Mu → Res D} : asB ((asB x).bind fun t m => if t then f m else h m) = (asB x).bind fun t m => if t then asB (f m) else asB (h m) := by
  cases x with
  | ok d m => cases d <;> first | rfl | (rename_i b; cases b <;> rfl)
  | ex _ _ _ => rfl
  | bad => rfl
theorem pt_ifExp {tc ta tb : TT} (hc : PT X c tc) (ha : PT X a ta) (hb : PT X b tb) : PT X (.IfExp c a b pos) (fun σ H Q => tc σ H fun d H1 => if d = true then ta σ H1 Q else tb σ H1 Q) := by
  refine ⟨fun pins s σ H Q I h => ?_⟩
  refine isTrue_IfExp (thn (hc.run pins s σ H _ I h) fun d s1 ⟨H1, I1, q1⟩ => ?_)
  cases d with
  | true => exact ha.run pins s1 σ H1 Q I1 q1
  | false => exact hb.run pins s1 σ H1 Q I1 q1
theorem ft_ite (hc : sT X c fc) (ha : sT X a fa) (hb : sT X b fb) : sT X (.IfExp c a b pos) fun r m => (asB (fc r m)).bind fun t m => if t then fa r m else fb r m :=
  pt_imp (pt_ifExp hc ha hb) fun σ H Q h => tt_read (h.eq fun r m => asB_ite)
/-- and, or -/
theorem f_and {rest : List Expr} (ha : sE X a fa) (hb : sE X (.BoolOp .And (b :: rest) pos) fb) : sE X (.BoolOp .And (a :: b :: rest) pos) fun r m => (asB (fa r m)).bind fun t m => if t then fb r m else .ok (.bl false) m :=
  pe_imp (pe_and ha hb) fun σ H Q h => (tG_asB (tt_read h)).imp fun v H1 ⟨c, e, w⟩ => ⟨c, e, by
    cases c with
    | true => exact w
    | false => exact bool_here w⟩
theorem f_or {rest : List Expr} (ha : sE X a fa) (hb : sE X (.BoolOp .Or (b :: rest) pos) fb) : sE X (.BoolOp .Or (a :: b :: rest) pos) fun r m => (asB (fa r m)).bind fun t m => if t then .ok (.bl true) m else fb r m :=
  pe_imp (pe_or ha hb) fun σ H Q h => (tG_asB (tt_read h)).imp fun v H1 ⟨c, e, w⟩ => ⟨c, e, by
    cases c with
    | false => exact w
    | true => exact bool_here w⟩
abbrev sW (X : Cx) (e : Expr) (f : List Slot → Mu → Res D) : Prop := PW X e (tG X.K rB fun r m => asB (f r m))
theorem fw_and {rest : List Expr} (ha : sT X a fa) (hb : sW X (.BoolOp .And (b :: rest) pos) fb) : sW X (.BoolOp .And (a :: b :: rest) pos) fun r m => (asB (fa r m)).bind fun t m => if t then fb r m else .ok (.bl false) m :=
  pw_imp (pw_and ha hb) fun σ H Q h => (tt_read (h.eq fun r m => asB_ite)).imp fun c H1 w => by
    cases c with
    | true => exact w
    | false => exact bool_hereT w
theorem fw_or {rest : List Expr} (ha : sT X a fa) (hb : sW X (.BoolOp .Or (b :: rest) pos) fb) : sW X (.BoolOp .Or (a :: b :: rest) pos) fun r m => (asB (fa r m)).bind fun t m => if t then .ok (.bl true) m else fb r m :=
  pw_imp (pw_or ha hb) fun σ H Q h => (tt_read (h.eq fun r m => asB_ite)).imp fun c H1 w => by
    cases c with
    | false => exact w
    | true => exact bool_hereT w
/-- a value as a test -/
theorem ft_val (h : sE X a fa) (he : ∀ whole, isTrue a X.env whole = (do let v ← whole; standAt a.pos; holding [v] (truthy v))) : sT X a fa :=
  pt_imp (pt_val h he) fun σ H Q w => tG_asB w

/-! argument lists, displays -/
theorem f_nil : sA X [] fun _ m => .ok [] m := pa_imp pa_nil fun σ H Q ⟨M, O, G, r, m, R, w⟩ => w [] H G (Grow.refl G H) R .nil
theorem f_cons {es : List Expr} {fs : List Slot → Mu → Res (List D)} (ha : sE X a fa) (hr : sA X es fs) (hs : starEach (a :: es) X.env = (false, eval a X.env) :: starEach es X.env) :
    sA X (a :: es) fun r m => (fa r m).bind fun d m => (fs r m).bind fun ds m => .ok (d :: ds) m :=
  pa_imp (pa_cons ha hr hs) fun σ H Q h => (tG2 (Pa := Rp X.K) (Pb := Rps X.K) stab_rp h).imp fun v H1 h1 => h1.imp fun vs H2 ⟨M, O, G, r, m, x, xs, R, p, q, w⟩ => w _ H2 G (Grow.refl G H2) R (.cons p q)
abbrev sXs (X : Cx) (es : List Expr) (f : List Slot → Mu → Res (List D)) : Prop := PA X es (tG X.K (Rws X.K) f)
theorem stab_rws {K : PySem.W.Frag} : Stab K (Rws K) := fun R g h => h.map fun _ _ z => R.rw g z
theorem f_nilx : sXs X [] fun _ m => .ok [] m := pa_imp pa_nil fun σ H Q ⟨M, O, G, r, m, R, w⟩ => w [] H G (Grow.refl G H) R .nil
theorem f_consx {es : List Expr} {fs : List Slot → Mu → Res (List D)} (ha : sX X a fa) (hr : sXs X es fs) (hs : starEach (a :: es) X.env = (false, eval a X.env) :: starEach es X.env) :
    sXs X (a :: es) fun r m => (fa r m).bind fun d m => (fs r m).bind fun ds m => .ok (d :: ds) m :=
  pa_imp (pa_cons ha hr hs) fun σ H Q h => (tG2 (Pa := Rw X.K) (Pb := Rws X.K) stab_rw h).imp fun v H1 h1 => h1.imp fun vs H2 ⟨M, O, G, r, m, x, xs, R, p, q, w⟩ => w _ H2 G (Grow.refl G H2) R (.cons p q)
theorem size100 {n : Nat} (h : n ≤ 100) : n ≤ sizeLine := by
  rw [sizeLine_eq]
  omega
theorem f_tup {es : List Expr} {k : Nat} {fs : List Slot → Mu → Res (List D)} (h : sA X es fs) (hl : ∀ r m ds m', fs r m = .ok ds m' → ds.length ≤ 100) : sE X (.Tuple es k pos) fun r m => (fs r m).bind fun ds m => .ok (.tup ds) m :=
  pe_imp (pe_tup h) fun σ H Q ⟨M, O, G, r, m, R, w⟩ => ⟨M, O, G, r, m, R, by
    obtain ⟨dd, mm, e⟩ := w.ok
    obtain ⟨ds, m1, e1, e2⟩ := bind_ok e
    dsimp only at w
    rw [e1] at w ⊢
    exact fun vs H1 G1 g1 R1 p1 => ⟨by rw [← p1.length]; exact size100 (hl _ _ _ _ e1), fun q hq => w _ _ G1 (g1.trans (Grow.same (same_upd hq))) (R1.same (same_upd hq)) (Rp.newT hq p1)⟩⟩
theorem f_lst {es : List Expr} {fs : List Slot → Mu → Res (List D)} (h : sA X es fs) (hl : ∀ r m ds m', fs r m = .ok ds m' → ds.length ≤ 100) : sE X (.List es pos) fun r m => (fs r m).bind fun ds m => .ok (.lst ds) m :=
  pe_imp (pe_lst h) fun σ H Q ⟨M, O, G, r, m, R, w⟩ => ⟨M, O, G, r, m, R, by
    obtain ⟨dd, mm, e⟩ := w.ok
    obtain ⟨ds, m1, e1, e2⟩ := bind_ok e
    dsimp only at w
    rw [e1] at w ⊢
    exact fun vs H1 G1 g1 R1 p1 => ⟨by rw [← p1.length]; exact size100 (hl _ _ _ _ e1), fun q hq => w _ _ G1 (g1.trans (Grow.same (same_upd hq))) (R1.same (same_upd hq)) (Rp.newL R1.fr hq p1)⟩⟩

/-! built-in calls -/
theorem f_b1 (sm : ∃ mm, X.base.Ns sysModules mm) (hc : X.calm = true) (hg : X.A.guards = some []) (hu : X.A.units + 64 < cLine) {bb : B1} (hgl : Gl X bb.name) (hm : X.mg bb.name = none) (ha : sX X a fa) (hs : starEach [a] X.env = (false, eval a X.env) :: starEach [] X.env) :
    sE X (.Call (.Name bb.name p) [a] [] pos) fun r m => (fa r m).bind fun x m => .of (b1op bb x) m := by
  have hr : CallR X (b1val bb) (fun xs H Q => ∃ B G, rc1 X.K B G (b1op bb) xs H Q) := fun pins s σ H xs us Q I r ⟨_, _, h⟩ => b1_sound sm hc hg hu bb pins s σ H xs us Q I r h
  have pa : PA X [a] (tCons (tG X.K (Rw X.K) fa) tNil) := pa_cons ha pa_nil hs
  have main : PE X (.Call (.Name bb.name p) [a] [] pos) (tCB (fun xs H Q => ∃ B G, rc1 X.K B G (b1op bb) xs H Q) (tCons (tG X.K (Rw X.K) fa) tNil)) := by
    cases bb
    · exact pe_callB hr hgl hm boot_len pa (by decide) (by decide) hs rfl
    · exact pe_callB hr hgl hm boot_all pa (by decide) (by decide) hs rfl
    · exact pe_callB hr hgl hm boot_any pa (by decide) (by decide) hs rfl
    · exact pe_callB hr hgl hm boot_sum pa (by decide) (by decide) hs rfl
    · exact pe_callTy hr hgl hm PyProof.Rows.boot_tuple pa (by decide) (by decide) hs rfl
    · exact pe_callTy hr hgl hm PyProof.Rows.boot_list pa (by decide) (by decide) hs rfl
    · exact pe_callB hr hgl hm boot_sorted pa (by decide) (by decide) hs rfl
    · exact pe_callB hr hgl hm boot_abs pa (by decide) (by decide) hs rfl
    · exact pe_callTy hr hgl hm PyProof.Rows.boot_int pa (by decide) (by decide) hs rfl
    · exact pe_callTy hr hgl hm PyProof.Rows.boot_str pa (by decide) (by decide) hs rfl
    · exact pe_callB hr hgl hm boot_repr pa (by decide) (by decide) hs rfl
    · exact pe_callB hr hgl hm boot_max pa (by decide) (by decide) hs rfl
    · exact pe_callB hr hgl hm boot_min pa (by decide) (by decide) hs rfl
  exact pe_imp main fun σ H Q h => (tG1 (Pa := Rw X.K) h).imp fun v H1 ⟨M, O, G, r, m, x, R, p, w⟩ => ⟨_, _, x, v, rfl, p, R.fr, w.fits R⟩
theorem f_b2 (hc : X.calm = true) {bb : B2} (hgl : Gl X bb.name) (hm : X.mg bb.name = none) (ha : sE X a fa) (hb : sE X b fb) (hs : starEach [a, b] X.env = (false, eval a X.env) :: starEach [b] X.env) (hs2 : starEach [b] X.env = (false, eval b X.env) :: starEach [] X.env) :
    sE X (.Call (.Name bb.name p) [a, b] [] pos) fun r m => (fa r m).bind fun x m => (fb r m).bind fun y m => .of (b2op bb x y) m := by
  have hr : CallR X (b2val bb) (fun xs H Q => ∃ B G, rc2 X.K B G (b2op bb) xs H Q) := fun pins s σ H xs us Q I r ⟨_, _, h⟩ => b2_sound hc bb pins s σ H xs us Q I r h
  have pa : PA X [a, b] (tCons (tG X.K (Rp X.K) fa) (tCons (tG X.K (Rp X.K) fb) tNil)) := pa_cons ha (pa_cons hb pa_nil hs2) hs
  have hp : (backTo pos (starEach [b] X.env)).any (·.1) = false := by
    rw [hs2]
    rfl
  have main : PE X (.Call (.Name bb.name p) [a, b] [] pos) (tCB (fun xs H Q => ∃ B G, rc2 X.K B G (b2op bb) xs H Q) (tCons (tG X.K (Rp X.K) fa) (tCons (tG X.K (Rp X.K) fb) tNil))) := by
    cases bb
    · exact pe_callB hr hgl hm boot_max pa (by decide) (by decide) hs hp
    · exact pe_callB hr hgl hm boot_min pa (by decide) (by decide) hs hp
    · exact pe_callB hr hgl hm boot_divmod pa (by decide) (by decide) hs hp
  exact pe_imp main fun σ H Q h => (tG2 (Pa := Rp X.K) (Pb := Rp X.K) stab_rp h).imp fun v H1 h1 => h1.imp fun u H2 ⟨M, O, G, r, m, x, y, R, p, q, w⟩ => ⟨_, _, x, y, v, u, rfl, .inl p, .inl q, R.fr, w.fits R⟩
theorem f_max3 (hc : X.calm = true) (hgl : Gl X "max") (hm : X.mg "max" = none) (ha : sE X a fa) (hb : sE X b fb) (hd : sE X c fc) (hs : starEach [a, b, c] X.env = (false, eval a X.env) :: starEach [b, c] X.env) (hs2 : starEach [b, c] X.env = (false, eval b X.env) :: starEach [c] X.env) (hs3 : starEach [c] X.env = (false, eval c X.env) :: starEach [] X.env) :
    sE X (.Call (.Name "max" p) [a, b, c] [] pos) fun r m => (fa r m).bind fun x m => (fb r m).bind fun y m => (fc r m).bind fun z m => .of (max3D x y z) m := by
  have hr : CallR X (.builtin "max") (fun xs H Q => ∃ B G, rc3 X.K B G max3D xs H Q) := fun pins s σ H xs us Q I r ⟨_, _, h⟩ => max3_sound hc pins s σ H xs us Q I r h
  have hp : (backTo pos (starEach [b, c] X.env)).any (·.1) = false := by
    rw [hs2, hs3]
    rfl
  exact pe_imp (pe_callB hr hgl hm boot_max (pa_cons ha (pa_cons hb (pa_cons hd pa_nil hs3) hs2) hs) (by decide) (by decide) hs hp) fun σ H Q h =>
    (tG3 (Pa := Rp X.K) (Pb := Rp X.K) (Pd := Rp X.K) stab_rp stab_rp h).imp fun v H1 h1 => h1.imp fun u H2 h2 => h2.imp fun t H3 ⟨M, O, G, r, m, x, y, z, R, p, q, q', w⟩ => ⟨_, _, x, y, z, v, u, t, rfl, .inl p, .inl q, .inl q', R.fr, w.fits R⟩
/-! special forms -/
theorem rps_rng {K : PySem.W.Frag} {B : Addr → Prop} {G : List Addr} {H : Hp} : ∀ (n : Nat) (a : Int), Rps K B G H (rng a n) ((List.range n).map fun (j : Nat) => V.int (a + j))
  | 0, a => .nil
  | n + 1, a => by
    rw [List.range_succ_eq_map, List.map_cons, List.map_map, rng]
    refine .cons (by simpa using Rp.int a) ?_
    have := rps_rng (K := K) (B := B) (G := G) (H := H) n (a + 1)
    have e : ((fun (j : Nat) => V.int (a + j)) ∘ Nat.succ) = fun (j : Nat) => V.int (a + 1 + j) := by
      funext j
      show V.int (a + ((j + 1 : Nat) : Int)) = _
      congr 1
      omega
    rw [e]
    exact this
theorem f_lenSet {q p2 : Pos} (hc : X.calm = true) (hg : Gl X "len") (hm : X.mg "len" = none) (hg2 : Gl X "set") (hm2 : X.mg "set" = none) (ha : sX X a fa) (hs : starEach [a] X.env = (false, eval a X.env) :: starEach [] X.env) :
    sE X (.Call (.Name "len" p) [.Call (.Name "set" p2) [a] [] q] [] pos) fun r m => (fa r m).bind fun x m => .of (spop .lenSet x) m :=
  pe_imp (pe_callB cr_lenSet hg hm boot_len (pa_cons (pe_callTy (cr_setT hc) hg2 hm2 boot_set (pa_cons ha pa_nil hs) (by decide) (by decide) hs rfl) pa_nil rfl) (by decide) (by decide) rfl rfl) fun σ H Q h =>
    (tG1 (Pa := Rw X.K) h).imp fun v H1 ⟨M, O, G, r, m, x, R, p, w⟩ => by
      obtain ⟨d, e, q⟩ := w.fits R
      unfold spop at e
      split at e <;> first | (cases ‹SpK.lenSet = _›; done) | skip
      · split at e
        · rename_i is hb
          split at e
          · rename_i hf
            cases e
            obtain ⟨a, ys, rfl, h1, h2⟩ := p.tup
            rw [ints_of hb h2] at h1
            exact ⟨a, is, rfl, h1, of_decide_eq_true hf, fun p hp => ⟨p, _, _, rfl, upd_same, q _ _ (same_upd hp) (.int _)⟩⟩
          · cases e
        · cases e
      all_goals cases e
theorem f_sortSet {q p2 : Pos} (hc : X.calm = true) (hg : Gl X "sorted") (hm : X.mg "sorted" = none) (hg2 : Gl X "set") (hm2 : X.mg "set" = none) (ha : sX X a fa) (hs : starEach [a] X.env = (false, eval a X.env) :: starEach [] X.env) :
    sE X (.Call (.Name "sorted" p) [.Call (.Name "set" p2) [a] [] q] [] pos) fun r m => (fa r m).bind fun x m => .of (spop .sortSet x) m :=
  pe_imp (pe_callB (cr_sortedSet hc) hg hm boot_sorted (pa_cons (pe_callTy (cr_setT hc) hg2 hm2 boot_set (pa_cons ha pa_nil hs) (by decide) (by decide) hs rfl) pa_nil rfl) (by decide) (by decide) rfl rfl) fun σ H Q h =>
    (tG1 (Pa := Rw X.K) h).imp fun v H1 ⟨M, O, G, r, m, x, R, p, w⟩ => by
      obtain ⟨d, e, q⟩ := w.fits R
      unfold spop at e
      split at e <;> first | (cases ‹SpK.sortSet = _›; done) | skip
      · split at e
        · rename_i is hb
          split at e
          · rename_i hf
            cases e
            have hf := of_decide_eq_true hf
            obtain ⟨a, ys, rfl, h1, h2⟩ := p.tup
            rw [ints_of hb h2] at h1
            refine ⟨a, is, rfl, h1, by omega, fun p hp => ⟨p, _, _, rfl, upd_same, Nat.lt_of_le_of_lt (nub_len is) hf, fun ns p2 hs hk hl hp2 => ?_⟩⟩
            have e : ns = sset is := sort_is (perm_of_mem (hs.imp fun {a b} (z : a < b) (y : a = b) => by omega) (nub_nodup is) fun x => by rw [hk, nub_mem, decide_eq_true_eq]) (hs.imp fun {a b} z => Int.le_of_lt z)
            rw [e]
            exact q _ _ (fun b o z => same_upd hp2 _ _ (same_upd hp _ _ z)) (Rp.newL (R.fr.same (same_upd hp)) hp2 (rps_ints _))
          · cases e
        · cases e
      all_goals cases e
theorem f_listRange {q p2 : Pos} (hc : X.calm = true) (hg : Gl X "list") (hm : X.mg "list" = none) (hg2 : Gl X "range") (hm2 : X.mg "range" = none) (ha : sX X a fa) (hs : starEach [a] X.env = (false, eval a X.env) :: starEach [] X.env) :
    sE X (.Call (.Name "list" p) [.Call (.Name "range" p2) [a] [] q] [] pos) fun r m => (fa r m).bind fun x m => .of (spop .listRange x) m :=
  pe_imp (pe_listRg hc hg hm (prg_1 hg2 hm2 ha hs) rfl) fun σ H Q h =>
    (tG1 (Pa := Rw X.K) h).imp fun v H1 ⟨M, O, G, r, m, x, R, p, w⟩ => by
      obtain ⟨d, e, q⟩ := w.fits R
      unfold spop at e
      split at e <;> first | (cases ‹SpK.listRange = _›; done) | skip
      · rename_i n _
        split at e
        · rename_i hf
          cases e
          have hf := of_decide_eq_true hf
          have := p.int
          subst this
          refine ⟨n, rfl, .of_le (by omega) hf.2 (by omega) hf.1, fun p hp => q _ _ (same_upd hp) (Rp.newL R.fr hp ?_)⟩
          have := rps_rng (K := X.K) (B := Bad M O G) (G := G) (H := H1) n.toNat 0
          unfold rgV
          rw [Int.sub_zero]
          exact this
        · cases e
      all_goals cases e
theorem f_tupRange {q p2 : Pos} (hc : X.calm = true) (hg : Gl X "tuple") (hm : X.mg "tuple" = none) (hg2 : Gl X "range") (hm2 : X.mg "range" = none) (ha : sX X a fa) (hs : starEach [a] X.env = (false, eval a X.env) :: starEach [] X.env) :
    sE X (.Call (.Name "tuple" p) [.Call (.Name "range" p2) [a] [] q] [] pos) fun r m => (fa r m).bind fun x m => .of (spop .tupRange x) m :=
  pe_imp (pe_tupRg hc hg hm (prg_1 hg2 hm2 ha hs) rfl) fun σ H Q h =>
    (tG1 (Pa := Rw X.K) h).imp fun v H1 ⟨M, O, G, r, m, x, R, p, w⟩ => by
      obtain ⟨d, e, q⟩ := w.fits R
      unfold spop at e
      split at e <;> first | (cases ‹SpK.tupRange = _›; done) | skip
      · rename_i n _
        split at e
        · rename_i hf
          cases e
          have hf := of_decide_eq_true hf
          have := p.int
          subst this
          refine ⟨n, rfl, .of_le (by omega) hf.2 (by omega) hf.1, fun p hp => q _ _ (same_upd hp) (Rp.newT hp ?_)⟩
          have := rps_rng (K := X.K) (B := Bad M O G) (G := G) (H := H1) n.toNat 0
          unfold rgV
          rw [Int.sub_zero]
          exact this
        · cases e
      all_goals cases e
theorem Rps.rev {K : PySem.W.Frag} {B : Addr → Prop} {G : List Addr} {H : Hp} : ∀ {ds : List D} {vs : List V}, Rps K B G H ds vs → Rps K B G H ds.reverse vs.reverse
  | _, _, .nil => .nil
  | _, _, .cons a t => by
    rw [List.reverse_cons, List.reverse_cons]
    exact (Rps.rev t).append (.cons a .nil)
theorem f_rev {k : Nat} {p1 p2 p3 : Pos} (ha : sX X a fa) : sE X (.Subscript a (.Slice none none (some (.UnaryOp .USub (.Constant (.int 1) k p1) p2)) p3) pos) fun r m => (fa r m).bind fun x m => .of (spop .rev x) m :=
  pe_imp (pe_revA ha) fun σ H Q h =>
    (tG1 (Pa := Rw X.K) h).imp fun v H1 ⟨M, O, G, r, m, x, R, p, w⟩ => by
      obtain ⟨d, e, q⟩ := w.fits R
      unfold spop at e
      split at e <;> first | (cases ‹SpK.rev = _›; done) | skip
      · cases e
        obtain ⟨a, ys, rfl, h1, h2⟩ := p.lst
        exact ⟨a, ys, rfl, .inl ⟨SqL.of h1, fun p hp => q _ _ (same_upd hp) (Rp.newL R.fr hp h2.rev)⟩⟩
      · cases e
        obtain ⟨a, ys, rfl, h1, h2⟩ := p.tup
        exact ⟨a, ys, rfl, .inr ⟨h1, fun p hp => q _ _ (same_upd hp) (Rp.newT hp h2.rev)⟩⟩
      all_goals cases e
theorem f_dic0 : sE X (.Dict [] [] pos) fun _ m => .ok (.dic [] []) m :=
  pe_imp pe_dnewK fun σ H Q ⟨M, O, G, r, m, R, w⟩ p hp => w _ _ G (Grow.same (same_upd hp)) (R.same (same_upd hp)) (.dic upd_same rfl .nil)
end
end Mi

set_option linter.all false
set_option maxRecDepth 100000
set_option maxHeartbeats 4000000
/-! Mi11: more forms: isinstance, methods, items, parts, calls of defs, what is walked, comprehensions. -/
namespace Mi
open PySem PySem.Spec PyProof.Rows L2
section
variable {X : Cx} {a b c : Expr} {fa fb fc : List Slot → Mu → Res D} {pos p : Pos}
/-! isinstance -/
theorem gl_of {x : Str} (h : glB X.env.scope x = true) : Gl X x ∧ (x == ("__debug__" : Str)) = false ∧ x ≠ "__name__" := by
  unfold glB at h
  split at h
  · rename_i e
    refine ⟨e, ?_⟩
    unfold nmOk at h
    simp only [Bool.and_eq_true, Bool.not_eq_true'] at h
    refine ⟨h.1.1, fun z => ?_⟩
    rw [z] at h
    simp at h
  · cases h
theorem boot_ty : ∀ t : Ty, bootBuiltins t.name = some (.type t.py)
  | .int => PyProof.Rows.boot_int | .bool => PyProof.Rows.boot_bool | .str => PyProof.Rows.boot_str | .list => PyProof.Rows.boot_list | .tuple => PyProof.Rows.boot_tuple | .seq => PyProof.Rows.boot_tuple
theorem f_isa {t : Ty} (ht : t ≠ .seq) {pq : Pos} (hg : Gl X "isinstance") (hm : X.mg "isinstance" = none) (hg2 : glB X.env.scope t.name = true) (hm2 : X.mg t.name = none) (ha : sE X a fa) (hs : starEach [a, .Name t.name pq] X.env = (false, eval a X.env) :: starEach [.Name t.name pq] X.env) :
    sE X (.Call (.Name "isinstance" p) [a, .Name t.name pq] [] pos) fun r m => (fa r m).bind fun x m => .of ((isaD t x).map .bl) m := by
  obtain ⟨g1, g2, g3⟩ := gl_of hg2
  have hb : PE X (.Name t.name pq) (tC (.ty t.py)) := pe_bltn g1 hm2 (boot_ty t) rfl g3 g2
  refine pe_imp (pe_callB call_isi hg hm boot_isinstance (pa_cons ha (pa_cons hb pa_nil rfl) hs) (by decide) (by decide) hs rfl) fun σ H Q h =>
    (tG1 (Pa := Rp X.K) h).imp fun v H1 ⟨M, O, G, r, m, x, R, p, w⟩ => ?_
  obtain ⟨bb, e, q⟩ := w.bool R
  obtain ⟨n, en⟩ := isa_ty e
  exact ⟨v, _, _, _, bb, rfl, .ty _, tyx_of (.inl p) en, kit_isa ht e en, q⟩
theorem f_isaS {pq pr ps : Pos} {kk : Nat} (hg : Gl X "isinstance") (hm : X.mg "isinstance" = none) (hg2 : glB X.env.scope "list" = true) (hm2 : X.mg "list" = none) (hg3 : glB X.env.scope "tuple" = true) (hm3 : X.mg "tuple" = none) (ha : sE X a fa)
    (hs : starEach [a, .Tuple [.Name "list" pq, .Name "tuple" pr] kk ps] X.env = (false, eval a X.env) :: starEach [.Tuple [.Name "list" pq, .Name "tuple" pr] kk ps] X.env) :
    sE X (.Call (.Name "isinstance" p) [a, .Tuple [.Name "list" pq, .Name "tuple" pr] kk ps] [] pos) fun r m => (fa r m).bind fun x m => .of ((isaD .seq x).map .bl) m := by
  obtain ⟨g1, g2, g3⟩ := gl_of hg2
  obtain ⟨g4, g5, g6⟩ := gl_of hg3
  have hb : PE X (.Name "list" pq) (tC (.ty "list")) := pe_bltn g1 hm2 PyProof.Rows.boot_list rfl g3 g2
  have hb2 : PE X (.Name "tuple" pr) (tC (.ty "tuple")) := pe_bltn g4 hm3 PyProof.Rows.boot_tuple rfl g6 g5
  have hb3 := pe_tup (x1 := kk) (pos := ps) (pa_cons hb (pa_cons hb2 pa_nil rfl) rfl)
  refine pe_imp (pe_callB call_isiT hg hm boot_isinstance (pa_cons ha (pa_cons hb3 pa_nil rfl) hs) (by decide) (by decide) hs rfl) fun σ H Q h =>
    (tG1 (Pa := Rp X.K) h).imp fun v H1 ⟨M, O, G, r, m, x, R, p, w⟩ => ?_
  refine ⟨by show 2 ≤ sizeLine; decide, fun q hq => ?_⟩
  have R2 := R.same (same_upd (o := .tup [V.ty "list", V.ty "tuple"]) hq)
  have w2 := w.grow (Grow.same (same_upd (o := .tup [V.ty "list", V.ty "tuple"]) hq))
  obtain ⟨bb, e, q'⟩ := w2.bool R2
  obtain ⟨n, en⟩ := isa_ty e
  exact ⟨v, q, _, _, _, bb, rfl, upd_same, .cons (.ty _) (.cons (.ty _) .nil), tyx_of (.inl (p.same (same_upd hq))) en, kit_seq e en, q'⟩
theorem f_isaS2 {pq pr ps : Pos} {kk : Nat} (hg : Gl X "isinstance") (hm : X.mg "isinstance" = none) (hg2 : glB X.env.scope "list" = true) (hm2 : X.mg "list" = none) (hg3 : glB X.env.scope "tuple" = true) (hm3 : X.mg "tuple" = none) (ha : sE X a fa)
    (hs : starEach [a, .Tuple [.Name "tuple" pr, .Name "list" pq] kk ps] X.env = (false, eval a X.env) :: starEach [.Tuple [.Name "tuple" pr, .Name "list" pq] kk ps] X.env) :
    sE X (.Call (.Name "isinstance" p) [a, .Tuple [.Name "tuple" pr, .Name "list" pq] kk ps] [] pos) fun r m => (fa r m).bind fun x m => .of ((isaD .seq x).map .bl) m := by
  obtain ⟨g1, g2, g3⟩ := gl_of hg2
  obtain ⟨g4, g5, g6⟩ := gl_of hg3
  have hb : PE X (.Name "list" pq) (tC (.ty "list")) := pe_bltn g1 hm2 PyProof.Rows.boot_list rfl g3 g2
  have hb2 : PE X (.Name "tuple" pr) (tC (.ty "tuple")) := pe_bltn g4 hm3 PyProof.Rows.boot_tuple rfl g6 g5
  have hb3 := pe_tup (x1 := kk) (pos := ps) (pa_cons hb2 (pa_cons hb pa_nil rfl) rfl)
  refine pe_imp (pe_callB call_isiT hg hm boot_isinstance (pa_cons ha (pa_cons hb3 pa_nil rfl) hs) (by decide) (by decide) hs rfl) fun σ H Q h =>
    (tG1 (Pa := Rp X.K) h).imp fun v H1 ⟨M, O, G, r, m, x, R, p, w⟩ => ?_
  refine ⟨by show 2 ≤ sizeLine; decide, fun q hq => ?_⟩
  have R2 := R.same (same_upd (o := .tup [V.ty "tuple", V.ty "list"]) hq)
  have w2 := w.grow (Grow.same (same_upd (o := .tup [V.ty "tuple", V.ty "list"]) hq))
  obtain ⟨bb, e, q'⟩ := w2.bool R2
  obtain ⟨n, en⟩ := isa_ty e
  exact ⟨v, q, _, _, _, bb, rfl, upd_same, .cons (.ty _) (.cons (.ty _) .nil), tyx_of (.inl (p.same (same_upd hq))) en, kit_seq2 e en, q'⟩
/-! methods -/
theorem m1_str {k : M1} {x y d : D} (h : m1op k x y = some d) : ∃ z, x = .str z := by
  cases k <;> cases x <;> first | exact ⟨_, rfl⟩ | (cases y <;> cases h)
theorem f_m1 {k : M1} {ap : Pos} (ha : sE X a fa) (hb : sX X b fb) (hs : starEach [b] X.env = [(false, eval b X.env)]) (hbase : attributeBase a k.name X.env (eval a X.env) = eval a X.env) (hline : (ap.endLine == pos.line) = true) :
    sE X (.Call (.Attribute a k.name ap) [b] [] pos) fun r m => (fa r m).bind fun x m => (fb r m).bind fun y m => .of (m1op k x y) m := by
  have main : PE X (.Call (.Attribute a k.name ap) [b] [] pos) (tM1 (fun x xs H Q => ∃ B G, rm1 X.K B G (m1op k) x xs H Q) (tG X.K (Rp X.K) fa) (tG X.K (Rw X.K) fb)) := by
    cases k
    · exact pe_m1 F.slot_str_split F.type_str_split (fun pins s σ H x xs v us Q I rx rs ⟨_, _, h⟩ => split_sound pins s σ H x xs v us Q I rx rs h) ha hb hs hbase hline
    · exact pe_m1 F.slot_str_join F.type_str_join (fun pins s σ H x xs v us Q I rx rs ⟨_, _, h⟩ => join_sound pins s σ H x xs v us Q I rx rs h) ha hb hs hbase hline
    · exact pe_m1 F.slot_str_startswith F.type_str_startswith (fun pins s σ H x xs v us Q I rx rs ⟨_, _, h⟩ => starts_sound pins s σ H x xs v us Q I rx rs h) ha hb hs hbase hline
  refine pe_imp main fun σ H Q h => ?_
  refine (tG1 (Pa := Rp X.K) h).imp fun v H1 ⟨M, O, G, r, m, x, R, p, w⟩ => ⟨?_, ?_⟩
  · obtain ⟨d, m', e⟩ := w.ok
    obtain ⟨y, m1, e1, e2⟩ := bind_ok e
    obtain ⟨z, rfl⟩ := m1_str (of_ok e2)
    cases p
    exact ⟨z, rfl⟩
  · exact ⟨M, O, G, r, m, R, (Want.bind (P := Rw X.K) w).mono fun u H2 ⟨y, m2, G2, g2, R2, p2, w2⟩ => ⟨_, _, x, y, u, rfl, .inl (R.rp g2 p), p2, R2.fr, w2.fits R2⟩⟩
/-! items and parts -/
theorem f_idx (ha : sX X a fa) (hb : sE X b fb) (hp : PlainIx b) : sE X (.Subscript a b pos) fun r m => (fa r m).bind fun x m => (fb r m).bind fun y m => .of (idxD m x y) m :=
  pe_imp (pe_ix (r := fun x y H Q => ∃ B G m, rIdx X.K B G m x y H Q) (fun value slice pins s σ H x y v u Q I rx ry ⟨_, _, _, h⟩ hs => idx_sound value slice pins s σ H x y v u Q I rx ry h hs) ha hb hp) fun σ H Q h =>
    (tG2 (Pa := Rw X.K) (Pb := Rp X.K) stab_rw h).imp fun v H1 h1 => h1.imp fun u H2 ⟨M, O, G, r, m, x, y, R, p, q, w⟩ => ⟨Bad M O G, G, m, x, y, p, .inl q, R.st, by
      obtain ⟨d, e, hq⟩ := w.fits R
      exact ⟨d, e, fun v hv => hq v H2 (Same.refl H2) hv⟩⟩
def eSl (K : PySem.W.Frag) : V → Option Int → Option Int → Hp → VK → Prop := fun x lo hi H Q => ∃ B G, rSl K B G x lo hi H Q
theorem slE : SlR X (eSl X.K) := fun pins s σ H x v vl vu lo hi sl Q I rx hs pl pu ⟨_, _, h⟩ => sl_sound pins s σ H x v vl vu lo hi sl Q I rx hs pl pu h
theorem slI_int {x y z d : D} (h : slI x y z = some d) : ∃ i j, y = .int i ∧ z = .int j := by
  unfold slI at h
  split at h
  · exact ⟨_, _, rfl, rfl⟩
  · cases h
theorem slLI_int {x y d : D} (h : slLI x y = some d) : ∃ i, y = .int i := by
  unfold slLI at h
  split at h
  · exact ⟨_, rfl⟩
  · cases h
theorem slHI_int {x y d : D} (h : slHI x y = some d) : ∃ i, y = .int i := by
  unfold slHI at h
  split at h
  · exact ⟨_, rfl⟩
  · cases h
theorem f_slB {ps : Pos} (ha : sX X a fa) (hb : sE X b fb) (hc : sE X c fc) : sE X (.Subscript a (.Slice (some b) (some c) none ps) pos) fun r m => (fa r m).bind fun x m => (fb r m).bind fun y m => (fc r m).bind fun z m => .of (slI x y z) m := by
  refine pe_imp (pe_slice slE ha (po_some hb) (po_some hc)) fun σ H Q h => ?_
  refine (tG1 (Pa := Rw X.K) h).imp fun v H1 ⟨M, O, G, r, m, x, R, p, w⟩ => ?_
  refine ⟨M, O, G, r, m, R, (Want.bind (P := Rp X.K) w).mono fun u H2 ⟨y, m2, G2, g2, R2, p2, w2⟩ => ?_⟩
  obtain ⟨d, m', e⟩ := w2.ok
  obtain ⟨z, m1, e1, e2⟩ := bind_ok e
  obtain ⟨i, j, rfl, rfl⟩ := slI_int (of_ok e2)
  cases p2
  refine ⟨i, rfl, M, O, G2, r, m2, R2, (Want.bind (P := Rp X.K) w2).mono fun t H3 ⟨z, m3, G3, g3, R3, p3, w3⟩ => ?_⟩
  obtain ⟨d, m', e⟩ := w3.ok
  obtain ⟨i', j, f1, rfl⟩ := slI_int (of_ok e)
  cases p3
  exact ⟨j, rfl, _, _, x, R.rw (g2.trans g3) p, R3.fr, w3.fits R3⟩
theorem f_slL {ps : Pos} (ha : sX X a fa) (hb : sE X b fb) : sE X (.Subscript a (.Slice (some b) none none ps) pos) fun r m => (fa r m).bind fun x m => (fb r m).bind fun y m => .of (slLI x y) m := by
  refine pe_imp (pe_slice slE ha (po_some hb) po_none) fun σ H Q h => ?_
  refine (tG1 (Pa := Rw X.K) h).imp fun v H1 ⟨M, O, G, r, m, x, R, p, w⟩ => ?_
  refine ⟨M, O, G, r, m, R, (Want.bind (P := Rp X.K) w).mono fun u H2 ⟨y, m2, G2, g2, R2, p2, w2⟩ => ?_⟩
  obtain ⟨d, m', e⟩ := w2.ok
  obtain ⟨i, rfl⟩ := slLI_int (of_ok e)
  cases p2
  exact ⟨i, rfl, _, _, x, R.rw g2 p, R2.fr, w2.fits R2⟩
theorem f_slH {ps : Pos} (ha : sX X a fa) (hb : sE X b fb) : sE X (.Subscript a (.Slice none (some b) none ps) pos) fun r m => (fa r m).bind fun x m => (fb r m).bind fun y m => .of (slHI x y) m := by
  refine pe_imp (pe_slice slE ha po_none (po_some hb)) fun σ H Q h => ?_
  refine (tG1 (Pa := Rw X.K) h).imp fun v H1 ⟨M, O, G, r, m, x, R, p, w⟩ => ?_
  refine ⟨M, O, G, r, m, R, (Want.bind (P := Rp X.K) w).mono fun u H2 ⟨y, m2, G2, g2, R2, p2, w2⟩ => ?_⟩
  obtain ⟨d, m', e⟩ := w2.ok
  obtain ⟨i, rfl⟩ := slHI_int (of_ok e)
  cases p2
  exact ⟨i, rfl, _, _, x, R.rw g2 p, R2.fr, w2.fits R2⟩
/-! calls of defs -/
theorem run_mi {C : Cc} {g : Mi.Env0} {k : Nat} (hk : Kn C g k X) {kws : List (Nat × List Str × List Nat)} {x : Str} {cal : List D → Mu → Res D} {f : Addr} {fd : FuncData} {ps : List Str} (F : FOk X.prog X.w X.K X.mg X.base k kws x cal f fd ps)
    {pins : List (Addr × Obj)} {σ : L2.St} {H : Hp} {s : Shared} {Q : VK} {us1 : List Value} {kw1 : List (Str × Value)} {us : List Value} {vs : List V} {ds : List D} {M : Addr → Prop} {O : Nat → Option Addr} {G : List Addr} {r : List Slot} {m : Mu}
    (I : Inv X pins σ H s) (hb : bindArgs fd ⟨us1, kw1⟩ = pure (ps.zip us)) (rv : Vals vs us) (R : Rep X.K M O G σ H r m) (p : Rps X.K (Bad M O G) G H ds vs) (w : Want X.K M O σ r (Rp X.K) G H (cal ds m) Q) :
    wpAny (model X.prog X.w) X.A (call (.ref f) us1 kw1) (EP X pins σ Q) X.xe s := by
  have p' : Rps X.K (BadF (Held M O) G) G H ds vs := by
    rw [bad_held']
    exact p
  have w' : WantF X.K (Held M O) G H (cal ds m) Q := by
    cases e : cal ds m with
    | ex _ _ _ =>
      rw [e] at w
      exact w
    | bad =>
      rw [e] at w
      exact w
    | ok d m' =>
      rw [e] at w
      intro v H' G' gr R' pv
      have pv : Rp X.K (BadF (Held M O) G') G' H' d v := pv
      rw [bad_held'] at pv
      exact w v H' G' gr (R.up gr R') pv
  refine wpAny_call (codeAny_mono (F.run X.A X.stack s H ⟨us1, kw1⟩ us vs ds G m (Held M O) Q hk.room hk.gd I.env0 (.of_eq hb) rv R.down p' w') fun r s' hq => ?_)
  cases r with
  | error e => exact False.elim hq
  | ok fl =>
    cases fl with
    | ret u => exact I.after hq
    | next => exact False.elim hq
    | brk => exact False.elim hq
    | cont => exact False.elim hq
theorem call_len {C : Cc} {g : Mi.Env0} {kws : List (Nat × List Str × List Nat)} {x : Str} {k : Nat} {cal : List D → Mu → Res D} {f : Addr} {fd : FuncData} {ps : List Str} (F : FOk X.prog X.w X.K X.mg X.base k kws x cal f fd ps)
    {M : Addr → Prop} {O : Nat → Option Addr} {σ : L2.St} {r : List Slot} {G : List Addr} {H : Hp} {ds : List D} {m : Mu} {Q : VK} (w : Want X.K M O σ r (Rp X.K) G H (cal ds m) Q) : ds.length = ps.length := F.len ds m fun e => by
  rw [e] at w
  exact w
theorem f_call {C : Cc} {g : Mi.Env0} {k f : Nat} {x : Str} (hk : Kn C g k X) (hf : C.fns[f]? = some x) (hg : glB X.env.scope x = true) {es : List Expr} {fs : List Slot → Mu → Res (List D)} (ha : sA X (a :: es) fs)
    (hs : starEach (a :: es) X.env = (false, eval a X.env) :: starEach es X.env) (hpl : (backTo pos (starEach es X.env)).any (·.1) = false) : sE X (.Call (.Name x p) (a :: es) [] pos) fun r m => (fs r m).bind fun ds m => g.call f ds m := by
  obtain ⟨fa, fd, ps, F⟩ := hk.fn f x hf
  obtain ⟨g1, g2, g3⟩ := gl_of hg
  refine ⟨fun pins s σ H Q I h => ?_⟩
  refine wpAny_Call_Name_kw (ld_glob I g1 F.at_ ?_ g2)
  refine PySem.W.callWith_K (h₀ := X.base) I.ok.mod.kin F.keep (thn (ha.run pos pins s σ H _ I (tG1 (Pa := Rps X.K) h)) fun us s1 ⟨vs, H1, I1, rv, M, O, G, r, m, ds, R, pd, w⟩ => ⟨I1.kIn, ?_⟩) hs hpl
  refine run_mi hk F I1 (F.pos us ?_) rv R pd w
  rw [← rv.length, ← pd.length]
  exact call_len (C := C) (g := g) F w
theorem f_call0 {C : Cc} {g : Mi.Env0} {k f : Nat} {x : Str} (hk : Kn C g k X) (hf : C.fns[f]? = some x) (hg : glB X.env.scope x = true) : sE X (.Call (.Name x p) [] [] pos) fun r m => g.call f [] m := by
  obtain ⟨fa, fd, ps, F⟩ := hk.fn f x hf
  obtain ⟨g1, g2, g3⟩ := gl_of hg
  refine ⟨fun pins s σ H Q I h => ?_⟩
  obtain ⟨M, O, G, r, m, R, w⟩ := h
  refine wpAny_Call_Name_kw (ld_glob I g1 F.at_ ?_ g2)
  refine PySem.W.callWith_K0 I.kIn F.keep (run_mi (us1 := []) hk F I (F.pos [] ?_) .nil R .nil w)
  exact call_len (C := C) (g := g) F w
abbrev sK (X : Cx) (es : List Keyword) (f : List Slot → Mu → Res (List D)) : Prop := PK X es (tG X.K (Rps X.K) f)
theorem pk_imp {e : List Keyword} {t t' : TA} (h : PK X e t) (i : ∀ σ H Q, t' σ H Q → t σ H Q) : PK X e t' := ⟨fun pos pins s σ H Q I w => h.run pos pins s σ H Q I (i σ H Q w)⟩
theorem f_knil : sK X [] fun _ m => .ok [] m := pk_imp pk_nil fun σ H Q ⟨M, O, G, r, m, R, w⟩ => w [] H G (Grow.refl G H) R .nil
theorem f_kcons {nm : Option Str} {kp : Pos} {es : List Keyword} {fs : List Slot → Mu → Res (List D)} (ha : sE X a fa) (hr : sK X es fs) :
    sK X (⟨nm, a, kp⟩ :: es) fun r m => (fa r m).bind fun d m => (fs r m).bind fun ds m => .ok (d :: ds) m :=
  pk_imp (pk_cons ha hr) fun σ H Q h => (tG2 (Pa := Rp X.K) (Pb := Rps X.K) stab_rp h).imp fun v H1 h1 => h1.imp fun vs H2 ⟨M, O, G, r, m, x, xs, R, p, q, w⟩ => w _ H2 G (Grow.refl G H2) R (.cons p q)
theorem perm_ok {xs ys : List D} : ∀ {ord : List Nat} {l : List D}, permD xs ys ord = some l → l = permL (xs ++ ys) ord ∧ ∀ i ∈ ord, i < (xs ++ ys).length
  | [], l, h => by
    cases h
    exact ⟨rfl, fun i hi => by cases hi⟩
  | i :: r, l, h => by
    unfold permD at h
    rw [List.foldr_cons] at h
    cases e1 : (xs ++ ys)[i]? with
    | none =>
      rw [e1] at h
      cases h
    | some d =>
      rw [e1] at h
      cases e2 : permD xs ys r with
      | none =>
        unfold permD at e2
        rw [e2] at h
        cases h
      | some l' =>
        obtain ⟨h1, h2⟩ := perm_ok e2
        unfold permD at e2
        rw [e2] at h
        cases h
        refine ⟨?_, fun j hj => ?_⟩
        · unfold permL
          rw [List.filterMap_cons, e1, h1]
          rfl
        · rcases List.mem_cons.mp hj with z | z
          · rw [z]
            exact (List.getElem?_eq_some_iff.mp e1).1
          · exact h2 j z
theorem perm_len {α : Type} {l : List α} : ∀ {ord : List Nat}, (∀ i ∈ ord, i < l.length) → (permL l ord).length = ord.length
  | [], _ => rfl
  | i :: r, h => by
    unfold permL
    rw [List.filterMap_cons, List.getElem?_eq_getElem (h i List.mem_cons_self)]
    show (_ :: permL l r).length = _
    rw [List.length_cons, List.length_cons, perm_len fun j hj => h j (List.mem_cons_of_mem _ hj)]
theorem perm_vals {vs : List V} {us : List Value} (r : Vals vs us) : ∀ {ord : List Nat}, (∀ i ∈ ord, i < vs.length) → Vals (permL vs ord) (permL us ord)
  | [], _ => .nil
  | i :: o, h => by
    have hi := h i List.mem_cons_self
    obtain ⟨u, h1, h2⟩ := r.get (List.getElem?_eq_getElem hi)
    unfold permL
    rw [List.filterMap_cons, List.filterMap_cons, List.getElem?_eq_getElem hi, h1]
    exact .cons h2 (perm_vals r fun j hj => h j (List.mem_cons_of_mem _ hj))
theorem perm_rps {K : PySem.W.Frag} {B : Addr → Prop} {G : List Addr} {H : Hp} {ds : List D} {vs : List V} (r : Rps K B G H ds vs) : ∀ {ord : List Nat}, (∀ i ∈ ord, i < ds.length) → Rps K B G H (permL ds ord) (permL vs ord)
  | [], _ => .nil
  | i :: o, h => by
    have hi := h i List.mem_cons_self
    obtain ⟨u, h1, h2⟩ := r.get (List.getElem?_eq_getElem hi)
    unfold permL
    rw [List.filterMap_cons, List.filterMap_cons, List.getElem?_eq_getElem hi, h1]
    exact .cons h2 (perm_rps r fun j hj => h j (List.mem_cons_of_mem _ hj))
theorem kw_all {kws : List Keyword} {ks : List Str} {env : Env} (h : kwNames kws = ks.map some) : (backToKw pos (keywordEach kws env)).all (·.1.isSome) = true ∧ (backToKw pos (keywordEach kws env)).filterMap (·.1) = ks ∧ (backToKw pos (keywordEach kws env)).any (·.1.isNone) = false ∧ kws.length = ks.length := by
  induction kws generalizing ks with
  | nil =>
    cases ks with
    | nil => exact ⟨rfl, rfl, rfl, rfl⟩
    | cons _ _ => cases h
  | cons q r ih =>
    obtain ⟨nm, v, kp⟩ := q
    cases ks with
    | nil => cases h
    | cons y ys =>
      have h1 : nm = some y ∧ kwNames r = ys.map some := by simpa [kwNames] using h
      obtain ⟨rfl, h2⟩ := h1
      obtain ⟨i1, i2, i3, i4⟩ := ih h2
      refine ⟨?_, ?_, ?_, by rw [List.length_cons, List.length_cons, i4]⟩
      · simpa [keywordEach, backToKw] using i1
      · simpa [keywordEach, backToKw] using i2
      · simpa [keywordEach, backToKw] using i3
theorem kw_fin {C : Cc} {g : Mi.Env0} {k f : Nat} {x : Str} (hk : Kn C g k X) {fa : Addr} {fd : FuncData} {ps : List Str} (F : FOk X.prog X.w X.K X.mg X.base k (kwsOf C f) x (g.call f) fa fd ps) {ks : List Str} {ord : List Nat} {n : Nat} (hin : (f, n, ks, ord) ∈ C.kws)
    {pins : List (Addr × Obj)} {s : Shared} {σ : L2.St} {H : Hp} {Q : VK} {us ws : List Value} {vs zs : List V} {ds ds2 : List D} {M : Addr → Prop} {O : Nat → Option Addr} {G : List Addr} {r : List Slot} {m : Mu} (I : Inv X pins σ H s) (rv : Vals vs us) (rz : Vals zs ws) (l1 : ds.length = n) (l2 : ds2.length = ks.length)
    (R : Rep X.K M O G σ H r m) (p1 : Rps X.K (Bad M O G) G H ds vs) (p2 : Rps X.K (Bad M O G) G H ds2 zs) (w : Want X.K M O σ r (Rp X.K) G H (match permD ds ds2 ord with | some l => g.call f l m | none => .bad) Q) :
    wpAny (model X.prog X.w) X.A (call (.ref fa) us (ks.zip ws)) (EP X pins σ Q) X.xe s := by
  have hin' : (n, ks, ord) ∈ kwsOf C f := List.mem_filterMap.mpr ⟨_, hin, by simp⟩
  cases e : permD ds ds2 ord with
  | none =>
    rw [e] at w
    exact False.elim w
  | some l =>
    rw [e] at w
    obtain ⟨e1, e2⟩ := perm_ok e
    subst e1
    have pp := p1.append p2
    have vv : ∀ i ∈ ord, i < (vs ++ zs).length := by rw [← pp.length]; exact e2
    have uv := (rv.append rz).length
    have hl := call_len (C := C) (g := g) F w
    refine run_mi hk F I (F.kw _ hin' us ws ?_ ?_ ?_) (perm_vals (rv.append rz) vv) R (perm_rps pp e2) w
    · rw [← rv.length, ← p1.length, l1]
    · rw [← rz.length, ← p2.length, l2]
    · rw [← hl, perm_len e2, perm_len (by rw [← uv]; exact vv)]
theorem f_callk {C : Cc} {g : Mi.Env0} {k f : Nat} {x : Str} (hk : Kn C g k X) (hf : C.fns[f]? = some x) (hg : glB X.env.scope x = true) {es : List Expr} {kws : List Keyword} {ks : List Str} {ord : List Nat} {fs fk : List Slot → Mu → Res (List D)} {n : Nat}
    (ha : sA X (a :: es) fs) (hn : ∀ r m ds m', fs r m = .ok ds m' → ds.length = n) (hn2 : ∀ r m ds m', fk r m = .ok ds m' → ds.length = ks.length) (hkk : sK X kws fk) (hkn : kwNames kws = ks.map some) (hin : (f, n, ks, ord) ∈ C.kws)
    (hs : starEach (a :: es) X.env = (false, eval a X.env) :: starEach es X.env) (hpl : (backTo pos (starEach es X.env)).any (·.1) = false) :
    sE X (.Call (.Name x p) (a :: es) kws pos) fun r m => (fs r m).bind fun ds m => (fk r m).bind fun ds2 m => match permD ds ds2 ord with
      | some l => g.call f l m
      | none => .bad := by
  obtain ⟨fa, fd, ps, F⟩ := hk.fn f x hf
  obtain ⟨g1, g2, g3⟩ := gl_of hg
  obtain ⟨k1, k2, k3, k4⟩ := kw_all (pos := pos) (env := X.env) hkn
  refine ⟨fun pins s σ H Q I h => ?_⟩
  refine wpAny_Call_Name_kw (ld_glob I g1 F.at_ ?_ g2)
  have hp2 : ((backTo pos (starEach (a :: es) X.env)).any (·.1) || (backToKw pos (keywordEach kws X.env)).any (·.1.isNone)) = false := by
    rw [k3, hs]
    show (false || (backTo pos (starEach es X.env)).any (·.1) || false) = false
    rw [hpl]
    rfl
  obtain ⟨M, O, G, r, m, R, w⟩ := h
  refine PySem.W.callWith_KW (h₀ := X.base) I.ok.mod.kin F.keep k1 (thn (ha.run pos pins s σ H (fun vs H1 => ∃ ds m1 G1, Grow G H G1 H1 ∧ Rep X.K M O G1 σ H1 r m1 ∧ Rps X.K (Bad M O G1) G1 H1 ds vs ∧ ds.length = n ∧ Want X.K M O σ r (Rp X.K) G1 H1 ((fk r m1).bind fun ds2 m => match permD ds ds2 ord with
      | some l => g.call f l m
      | none => .bad) Q) I ⟨M, O, G, r, m, R, ?_⟩) fun us s1 ⟨vs, H1, I1, rv, ds, m1, G1, gr, R1, p1, l1, w1⟩ => ?_) hp2 hs
  · have wb := Want.bind (P := Rps X.K) w
    cases e : fs r m with
    | ex _ _ _ =>
      rw [e] at wb
      exact wb
    | bad =>
      rw [e] at wb
      exact wb
    | ok ds m1 =>
      dsimp only at w
      rw [e] at w
      exact fun v H' G' gg RR pp => ⟨ds, m1, G', gg, RR, pp, hn _ _ _ _ e, w.grow gg⟩
  · refine thn (hkk.run pos pins s1 σ H1 (fun zs H2 => ∃ ds2 m2 G2, Grow G1 H1 G2 H2 ∧ Rep X.K M O G2 σ H2 r m2 ∧ Rps X.K (Bad M O G2) G2 H2 ds2 zs ∧ ds2.length = ks.length ∧ Want X.K M O σ r (Rp X.K) G2 H2 (match permD ds ds2 ord with
      | some l => g.call f l m2
      | none => .bad) Q) I1 ⟨M, O, G1, r, m1, R1, ?_⟩) fun ws s2 ⟨zs, H2, I2, rz, ds2, m2, G2, gr2, R2, p2, l2, w2⟩ => ⟨I2.kIn, ?_⟩
    · have wb := Want.bind (P := Rps X.K) w1
      cases e : fk r m1 with
      | ex _ _ _ =>
        rw [e] at wb
        exact wb
      | bad =>
        rw [e] at wb
        exact wb
      | ok ds2 m2 =>
        rw [e] at w1
        exact fun v H' G' gg RR pp => ⟨ds2, m2, G', gg, RR, pp, hn2 _ _ _ _ e, w1.grow gg⟩
    · rw [k2]
      exact kw_fin hk F hin I2 rv rz l1 l2 R2 (R1.rps gr2 p1) p2 w2
theorem f_callk0 {C : Cc} {g : Mi.Env0} {k f : Nat} {x : Str} (hk : Kn C g k X) (hf : C.fns[f]? = some x) (hg : glB X.env.scope x = true) {kws : List Keyword} {ks : List Str} {ord : List Nat} {fk : List Slot → Mu → Res (List D)}
    (hn2 : ∀ r m ds m', fk r m = .ok ds m' → ds.length = ks.length) (hkk : sK X kws fk) (hkn : kwNames kws = ks.map some) (hin : (f, 0, ks, ord) ∈ C.kws) :
    sE X (.Call (.Name x p) [] kws pos) fun r m => (fk r m).bind fun ds2 m => match permD [] ds2 ord with
      | some l => g.call f l m
      | none => .bad := by
  obtain ⟨fa, fd, ps, F⟩ := hk.fn f x hf
  obtain ⟨g1, g2, g3⟩ := gl_of hg
  obtain ⟨k1, k2, k3, k4⟩ := kw_all (pos := pos) (env := X.env) hkn
  refine ⟨fun pins s σ H Q I h => ?_⟩
  refine wpAny_Call_Name_kw (ld_glob I g1 F.at_ ?_ g2)
  have hp2 : ((backTo pos (starEach [] X.env)).any (·.1) || (backToKw pos (keywordEach kws X.env)).any (·.1.isNone)) = false := by
    rw [k3]
    rfl
  obtain ⟨M, O, G1, r, m1, R1, w1⟩ := h
  refine PySem.W.callWith_KW0 I.kIn F.keep k1 ?_ hp2
  refine thn (hkk.run pos pins s σ H (fun zs H2 => ∃ ds2 m2 G2, Grow G1 H G2 H2 ∧ Rep X.K M O G2 σ H2 r m2 ∧ Rps X.K (Bad M O G2) G2 H2 ds2 zs ∧ ds2.length = ks.length ∧ Want X.K M O σ r (Rp X.K) G2 H2 (match permD [] ds2 ord with
      | some l => g.call f l m2
      | none => .bad) Q) I ⟨M, O, G1, r, m1, R1, ?_⟩) fun ws s2 ⟨zs, H2, I2, rz, ds2, m2, G2, gr2, R2, p2, l2, w2⟩ => ⟨I2.kIn, ?_⟩
  · have wb := Want.bind (P := Rps X.K) w1
    cases e : fk r m1 with
    | ex _ _ _ =>
      rw [e] at wb
      exact wb
    | bad =>
      rw [e] at wb
      exact wb
    | ok ds2 m2 =>
      dsimp only at w1
      rw [e] at w1
      exact fun v H' G' gg RR pp => ⟨ds2, m2, G', gg, RR, pp, hn2 _ _ _ _ e, w1.grow gg⟩
  · rw [k2]
    exact kw_fin (us := []) hk F hin I2 .nil rz rfl l2 R2 .nil p2 w2
/-! what is walked -/
abbrev sI (X : Cx) (tg e : Expr) (P : Rel (List D) (List V)) (f : List Slot → Mu → Res (List D)) (ik : IK) : Prop := PI X tg e (tIt X.K P f ik)
abbrev InRw (K : PySem.W.Frag) (P : Rel (List D) (List V)) : Prop := ∀ {B : Addr → Prop} {G : List Addr} {H : Hp} {ds : List D} {vs : List V}, P B G H ds vs → Rws K B G H ds vs
theorem rw_str {K : PySem.W.Frag} {B : Addr → Prop} {G : List Addr} {H : Hp} {x : Str} {v : V} (h : Rw K B G H (.str x) v) : v = .str x := h.str
theorem f_it1 {tg : Expr} {Pa : Rel D V} {P : Rel (List D) (List V)} (h1 : ∀ {B : Addr → Prop} {G : List Addr} {H : Hp} {d : D} {v : V}, Pa B G H d v → Rw X.K B G H d v) (h2 : ∀ {B : Addr → Prop} {G : List Addr} {H : Hp} {d : D} {v : V}, Pa B G H d v → P B G H [d] [v])
    (ha : PE X a (tG X.K Pa fa)) : sI X tg a P (fun r m => (fa r m).bind fun d m => .ok [d] m) .seq := by
  refine ⟨fun pins s σ H R I h => ?_⟩
  obtain ⟨M, O, G, r, m, Rm, w⟩ := h
  dsimp only at w
  cases e : fa r m with
  | ex _ _ _ =>
    rw [e] at w
    exact False.elim w
  | bad =>
    rw [e] at w
    exact False.elim w
  | ok d m1 =>
    rw [e] at w
    replace w : ∃ xs, itemsD .seq [d] = some xs ∧ ∀ J H' G' vs, Grow G H G' H' → Rep X.K M O G' σ H' r m1 → P (Bad M O G') G' H' [d] vs → Feeds X.K J xs [d] vs → R J H' := w
    obtain ⟨xs, e2, w⟩ := w
    have rd : ∀ {Q : VK}, (∀ v H' G', Grow G H G' H' → Rep X.K M O G' σ H' r m1 → Pa (Bad M O G') G' H' d v → Q v H') → tG X.K Pa fa σ H Q := fun {Q} h => ⟨M, O, G, r, m, Rm, by
      rw [e]
      exact h⟩
    unfold itemsD at e2
    cases d with
    | lst ds =>
      cases e2
      refine (pi_list ha).run pins s σ H R I (rd fun v H' G' g R' p => ?_)
      obtain ⟨q, ys, rfl, h3, h4⟩ := (h1 p).lst
      exact ⟨q, rfl, ⟨ys, SqL.of h3⟩, w _ H' G' [.ref q] g R' (h2 p) feeds_lst⟩
    | tup ds =>
      cases e2
      refine (pi_tup ha).run pins s σ H R I (rd fun v H' G' g R' p => ?_)
      obtain ⟨q, ys, rfl, h3, h4⟩ := (h1 p).tup
      exact ⟨q, rfl, ⟨ys, h3⟩, w _ H' G' [.ref q] g R' (h2 p) feeds_tup⟩
    | str x =>
      cases e2
      refine (pi_str ha).run pins s σ H R I (rd fun v H' G' g R' p => ?_)
      exact ⟨x, (h1 p).str, w _ H' G' [v] g R' (h2 p) feeds_str⟩
    | non => cases e2
    | bl _ => cases e2
    | int _ => cases e2
    | ref _ => cases e2
    | scr _ => cases e2
    | dic _ _ => cases e2
theorem it_read {K : PySem.W.Frag} {P : Rel (List D) (List V)} (hP : InRw K P) {f : List Slot → Mu → Res (List D)} {ik : IK} {σ : L2.St} {H : Hp} {R : It → Hp → Prop} (h : tIt K P f ik σ H R) : tG K P f σ H fun vs H1 => ∃ B G ds xs, Rws K B G H1 ds vs ∧ itemsD ik ds = some xs ∧ ∀ J, Feeds K J xs ds vs → R J H1 := by
  obtain ⟨M, O, G, r, m, Rm, w⟩ := h
  refine ⟨M, O, G, r, m, Rm, ?_⟩
  cases e : f r m with
  | ex _ _ _ =>
    rw [e] at w
    exact False.elim w
  | bad =>
    rw [e] at w
    exact False.elim w
  | ok ds m1 =>
    rw [e] at w
    obtain ⟨xs, e2, w⟩ := w
    exact fun vs H' G' g R' p => ⟨_, _, ds, xs, hP p, e2, fun J F => w J H' G' vs g R' p F⟩
theorem inR_lt {i : Int} (h : inR i = true) : -(2 ^ 62) ≤ i ∧ i < 2 ^ 62 := by
  have := of_decide_eq_true h
  omega
theorem items_r1 {ds xs : List D} (h : itemsD .range1 ds = some xs) : ∃ j, ds = [.int j] ∧ inR j = true ∧ xs = rng 0 j.toNat := by
  rcases ds with _ | ⟨d, _ | ⟨e, r⟩⟩
  · cases h
  · cases d <;> first | (cases h; done) | skip
    rename_i j
    have h : (if inR j = true then some (rng 0 j.toNat) else none) = some xs := h
    split at h
    · cases h
      exact ⟨j, rfl, by assumption, rfl⟩
    · cases h
  · cases d <;> cases h
theorem items_r2 {ds xs : List D} (h : itemsD .range2 ds = some xs) : ∃ i j, ds = [.int i, .int j] ∧ (inR i && inR j) = true ∧ xs = rng i (j - i).toNat := by
  rcases ds with _ | ⟨d, _ | ⟨e, _ | ⟨e2, r⟩⟩⟩
  · cases h
  · cases d <;> cases h
  · cases d <;> cases e <;> first | (cases h; done) | skip
    rename_i i j
    have h : (if (inR i && inR j) = true then some (rng i (j - i).toNat) else none) = some xs := h
    split at h
    · cases h
      exact ⟨i, j, rfl, by assumption, rfl⟩
    · cases h
  · cases d <;> cases e <;> cases h
theorem items_en {ds xs : List D} (h : itemsD .enum ds = some xs) : ∃ ys, (ds = [.lst ys] ∨ ds = [.tup ys]) ∧ xs = enums 0 ys := by
  rcases ds with _ | ⟨d, _ | ⟨e, r⟩⟩
  · cases h
  · cases d <;> first | (cases h; done) | skip
    · cases h
      exact ⟨_, .inl rfl, rfl⟩
    · cases h
      exact ⟨_, .inr rfl, rfl⟩
  · cases d <;> cases h
theorem items_z {ds xs : List D} (h : itemsD .zip ds = some xs) : ∃ ys zs, (ds = [.lst ys, .lst zs] ∨ ds = [.tup ys, .tup zs]) ∧ xs = pairs ys zs := by
  rcases ds with _ | ⟨d, _ | ⟨e, _ | ⟨e2, r⟩⟩⟩
  · cases h
  · cases d <;> cases h
  · cases d <;> cases e <;> first | (cases h; done) | skip
    · cases h
      exact ⟨_, _, .inl rfl, rfl⟩
    · cases h
      exact ⟨_, _, .inr rfl, rfl⟩
  · cases d <;> cases e <;> cases h
theorem f_rng1 {tg : Expr} {P : Rel (List D) (List V)} (hP : InRw X.K P) {fs : List Slot → Mu → Res (List D)} (hg : Gl X "range") (hm : X.mg "range" = none) (ha : PA X [a] (tG X.K P fs)) (hs : starEach [a] X.env = [(false, eval a X.env)]) : sI X tg (.Call (.Name "range" p) [a] [] pos) P fs .range1 := by
  refine ⟨fun pins s σ H R I h => (pi_range1 hg hm ha hs).run pins s σ H R I ((it_read hP h).imp fun vs H1 ⟨B, G, ds, xs, rv, e, hq⟩ => ?_)⟩
  obtain ⟨j, rfl, hj, rfl⟩ := items_r1 e
  obtain ⟨v, rfl, r1⟩ := rv.inv1
  have := r1.int
  subst this
  exact ⟨j, rfl, (inR_lt hj).1, (inR_lt hj).2, hq _ feeds_rng⟩
theorem f_rng2 {tg : Expr} {P : Rel (List D) (List V)} (hP : InRw X.K P) {fs : List Slot → Mu → Res (List D)} (hg : Gl X "range") (hm : X.mg "range" = none) (ha : PA X [a, b] (tG X.K P fs)) (hs : starEach [a, b] X.env = [(false, eval a X.env), (false, eval b X.env)]) (hs2 : starEach [b] X.env = [(false, eval b X.env)]) : sI X tg (.Call (.Name "range" p) [a, b] [] pos) P fs .range2 := by
  refine ⟨fun pins s σ H R I h => (pi_range2 hg hm ha hs hs2).run pins s σ H R I ((it_read hP h).imp fun vs H1 ⟨B, G, ds, xs, rv, e, hq⟩ => ?_)⟩
  obtain ⟨i, j, rfl, hj, rfl⟩ := items_r2 e
  rw [Bool.and_eq_true] at hj
  obtain ⟨v, w, rfl, r1, r2⟩ := rv.inv2
  have h1 := r1.int
  have h2 := r2.int
  subst h1 h2
  exact ⟨i, j, rfl, ⟨(inR_lt hj.1).1, (inR_lt hj.1).2, (inR_lt hj.2).1, (inR_lt hj.2).2⟩, hq _ feeds_rng⟩
theorem f_enum {elts : List Expr} {kk : Nat} {tpos : Pos} {P : Rel (List D) (List V)} (hP : InRw X.K P) {fs : List Slot → Mu → Res (List D)} (hg : Gl X "enumerate") (hm : X.mg "enumerate" = none) (ha : PA X [a] (tG X.K P fs)) (hs : starEach [a] X.env = [(false, eval a X.env)]) : sI X (.Tuple elts kk tpos) (.Call (.Name "enumerate" p) [a] [] pos) P fs .enum := by
  refine ⟨fun pins s σ H R I h => (pi_enumT hg hm ha hs).run pins s σ H R I ((it_read hP h).imp fun vs H1 ⟨B, G, ds, xs, rv, e, hq⟩ => ?_)⟩
  obtain ⟨zs, rfl | rfl, rfl⟩ := items_en e
  · obtain ⟨v, rfl, r1⟩ := rv.inv1
    obtain ⟨q, ys, rfl, h1, h2⟩ := r1.lst
    exact ⟨q, ys, rfl, .inl ⟨SqL.of h1, hq _ feeds_enum⟩⟩
  · obtain ⟨v, rfl, r1⟩ := rv.inv1
    obtain ⟨q, ys, rfl, h1, h2⟩ := r1.tup
    exact ⟨q, ys, rfl, .inr ⟨h1, hq _ feeds_enumT⟩⟩
theorem f_zip {elts : List Expr} {kk : Nat} {tpos : Pos} {P : Rel (List D) (List V)} (hP : InRw X.K P) {fs : List Slot → Mu → Res (List D)} (hg : Gl X "zip") (hm : X.mg "zip" = none) (ha : PA X [a, b] (tG X.K P fs)) (hs : starEach [a, b] X.env = (false, eval a X.env) :: starEach [b] X.env) (hpl : (backTo pos (starEach [b] X.env)).any (·.1) = false) :
    sI X (.Tuple elts kk tpos) (.Call (.Name "zip" p) [a, b] [] pos) P fs .zip := by
  refine ⟨fun pins s σ H R I h => (RZ.pi_zipA hg hm ha hs hpl).run pins s σ H R I ((it_read hP h).imp fun vs H1 ⟨B, G, ds, xs, rv, e, hq⟩ => ?_)⟩
  obtain ⟨ys0, zs0, rfl | rfl, rfl⟩ := items_z e
  · obtain ⟨v, w, rfl, r1, r2⟩ := rv.inv2
    obtain ⟨q, ys, rfl, h1, h2⟩ := r1.lst
    obtain ⟨q', ys', rfl, h1', h2'⟩ := r2.lst
    exact ⟨q, q', ys, ys', rfl, .inl ⟨SqL.of h1, SqL.of h1', hq _ feeds_zipL⟩⟩
  · obtain ⟨v, w, rfl, r1, r2⟩ := rv.inv2
    obtain ⟨q, ys, rfl, h1, h2⟩ := r1.tup
    obtain ⟨q', ys', rfl, h1', h2'⟩ := r2.tup
    exact ⟨q, q', ys, ys', rfl, .inr ⟨h1, h1', hq _ feeds_zipT⟩⟩
end
end Mi

set_option linter.all false
set_option maxRecDepth 100000
set_option maxHeartbeats 8000000
/-! Mi12: an expression that a tree stands for runs as the tree says. -/
namespace Mi
open PySem PySem.Spec PyProof.Rows L2

theorem mapR_if {c : D → Mu → Res Bool} {f : D → Mu → Res D} (h : ∀ x m, c x m = .ok true m ∨ f x m = .bad ∧ c x m = .bad) : ∀ (xs : List D) (m : Mu), mapR f xs m = mapIfR c f xs m
  | [], m => rfl
  | x :: xs, m => by
    unfold mapR mapIfR
    rcases h x m with e | ⟨e1, e2⟩
    · rw [e]
      dsimp only
      cases f x m with
      | ok y m1 =>
        dsimp only
        rw [mapR_if h xs m1]
      | ex _ _ _ => rfl
      | bad => rfl
    · rw [e1, e2]
section
variable {X : Cx} {a b c : Expr} {fa fb fc : List Slot → Mu → Res D} {pos p : Pos}
theorem f_bad {e : Expr} {P : Rel D V} : PE X e (tG X.K P fun _ _ => .bad) := ⟨fun _ _ _ _ _ _ ⟨_, _, _, _, _, _, w⟩ => False.elim w⟩
theorem loc_of {sc : Scope} {x : Str} (h : locB sc x = true) : sc.names.lookup x = some .local ∨ sc.names.lookup x = some .cell := by
  unfold locB at h
  split at h
  · exact .inl (by assumption)
  · exact .inr (by assumption)
  · cases h
theorem vis_of {sc : Scope} {x : Str} (h : visB sc x = true) : Vis sc x := by
  unfold visB at h
  split at h
  · exact .inl (by assumption)
  · exact .inr (.inl (by assumption))
  · exact .inr (.inr (by assumption))
  · cases h
theorem slot_of {C : Cc} {i : Nat} {x : Str} (h : slotB C i x = true) : C.N[i]? = some x := of_decide_eq_true h
theorem nm_of {x : Str} (h : nmOk x = true) : (x == ("__debug__" : Str)) = false ∧ (x == ("__classdict__" : Str)) = false := by
  unfold nmOk at h
  simp only [Bool.and_eq_true, Bool.not_eq_true'] at h
  exact ⟨h.1.1, h.1.2⟩
/-- the targets of a comprehension -/
theorem tgL_blk {C : Cc} {g : Mi.Env0} {k : Nat} (hk : Kn C g k X) {scope : Scope} (s : Shared) (H : Hp) (cl : List (Str × Addr)) (CC : Addr) (fp : List Addr) : ∀ {is : List Nat} {ts : List Expr}, is.length = ts.length →
    ((is.zip ts).all fun p => match p.2 with | .Name x _ => slotB C p.1 x && locB scope x && nmOk x | _ => false) = true → TgL (X.blk s H scope (compEnvC scope cl CC X.env) fp) is ts
  | [], [], _, _ => trivial
  | i :: is, t :: ts, hl, h => by
    rw [List.zip_cons_cons, List.all_cons, Bool.and_eq_true] at h
    obtain ⟨h1, h2⟩ := h
    split at h1
    · rename_i x q e
      have e : t = .Name x q := e
      subst e
      simp only [Bool.and_eq_true] at h1
      refine ⟨?_, tgL_blk hk s H cl CC fp (by simpa using hl) h2⟩
      refine ⟨by rw [← slot_of h1.1.1]; exact congrArg (fun l => l[i]?) hk.N, ?_, ?_⟩
      · rcases loc_of h1.1.2 with q | q
        · exact .inl (lookup_relS_keep (by decide) q)
        · exact .inr (lookup_relS_keep (by decide) q)
      · rcases loc_of h1.1.2 with q | q
        · exact .inr (lookup_relS_keep (by decide) q)
        · refine .inl ?_
          show (scope.names.lookup x == some .cell) = true
          rw [q]
          decide
    · cases h1
  | [], _ :: _, hl, _ => by cases hl
  | _ :: _, [], hl, _ => by cases hl
theorem tg_blk {C : Cc} {g : Mi.Env0} {k : Nat} (hk : Kn C g k X) {scope : Scope} {t : Tgt} {e : Expr} (h : okT C scope t e = true) (s : Shared) (H : Hp) (cl : List (Str × Addr)) (CC : Addr) (fp : List Addr) : TgOk (X.blk s H scope (compEnvC scope cl CC X.env) fp) t e := by
  unfold okT at h
  split at h
  · simp only [Bool.and_eq_true] at h
    have := tgL_blk hk (scope := scope) s H cl CC fp (is := [_]) (ts := [.Name _ ‹Pos›]) rfl (by simp only [List.zip_cons_cons, List.zip_nil_right, List.all_cons, List.all_nil, Bool.and_true, Bool.and_eq_true]; exact h)
    exact this.1
  · simp only [Bool.and_eq_true, decide_eq_true_eq] at h
    exact tgL_blk hk s H cl CC fp h.1 h.2
  · cases h

theorem tg_own {own : List (Str × Nat)} {t : Tgt} {ik : IK} {e : Expr} (h : okTg own t ik e = true) : (∀ i ∈ tgSlots t, i ∈ own.map (·.2)) ∧ (ik = .enum ∨ ik = .zip → tupT e = true) := by
  unfold okTg at h
  rw [Bool.and_eq_true, List.all_eq_true] at h
  refine ⟨fun i hi => by simpa using h.1 i hi, fun q => ?_⟩
  rcases q with rfl | rfl <;> exact h.2
/-- a comprehension: as a value, stored at once -/
structure COk (X : Cx) (ast : Expr) (f : List Slot → Mu → Res D) : Prop where
  v : PE X ast (tN X.K f)
  s : ∀ (i : Nat) (y : Str) (py spos : Pos), X.N[i]? = some y → X.env.scope.names.lookup y = some .local → swapsWith ast (some (.Name y py)) spos.line X.env = pure true → PS X (.Assign [.Name y py] ast spos) (tAsg (tN X.K f) (gName i))
  l : ∀ r m, lstO (f r m) = true
theorem COk.e {X : Cx} {ast : Expr} {f : List Slot → Mu → Res D} (h : COk X ast f) : sE X ast f := pe_imp h.v fun σ H Q ⟨M, O, G, r, m, R, w⟩ => ⟨M, O, G, r, m, R, w.new (h.l r m)⟩
theorem ps_imp {st : Stmt} {t t' : TS} (h : PS X st t) (i : ∀ D σ H, t' D σ H → t D σ H) : PS X st t' := ⟨fun pins s σ H D I w => h.run pins s σ H D I (i D σ H w)⟩
theorem lstO_R {x : Res (List D)} : lstO (lstR x) = true := by
  cases x with
  | ok ys m =>
    unfold lstR
    dsimp only
    split <;> rfl
  | ex _ _ _ => rfl
  | bad => rfl
theorem lstO_comp {x : Res (List D)} {ik : IK} {F : List D → Mu → Res (List D)} : lstO (x.bind fun ds m => match itemsD ik ds with | some xs => lstR (F xs m) | none => .bad) = true := by
  cases x with
  | ok ds m =>
    show lstO (match itemsD ik ds with | some xs => lstR (F xs m) | none => .bad) = true
    cases itemsD ik ds with
    | none => rfl
    | some xs => exact lstO_R
  | ex _ _ _ => rfl
  | bad => rfl
theorem f_comp {C : Cc} {g : Mi.Env0} {k : Nat} (hk : Kn C g k X) {tg iter elt : Expr} {scope : Scope} {own : List (Str × Nat)} {t : Tgt} {ik : IK} {fi : List Slot → Mu → Res (List D)} {f : List Slot → Mu → Res D} (hb : blkC C.N X.env.scope scope own = true) (ho : okTg own t ik tg = true) (ht : okT C scope t tg = true)
    (hi : sI X tg iter (Rws X.K) fi ik) (he : ∀ (s : Shared) (H : Hp) (CC : Addr) (cl : List (Str × Addr)) (fp : List Addr), sE (X.blk s H scope (compEnvC scope cl CC X.env) fp) elt f) (hs : ∀ x, foldedSetIterable iter X.env x = pure x) :
    COk X (.ListComp elt [⟨tg, iter, [], 0⟩] scope pos) fun r m => (fi r m).bind fun ds m => match itemsD ik ds with
      | some xs => lstR (mapR (fun x m => match bindT t x (wipeS r (own.map (·.2))) with | some r' => f r' m | none => .bad) xs m)
      | none => .bad := by
  have hn : X.N.Nodup := by
    rw [hk.N]
    exact hk.nd
  have hb' : BlkOk X.N X.env.scope scope own := blkOk_by (by rw [hk.N]; exact hb)
  have rd : ∀ σ H Q, tN X.K (fun r m => (fi r m).bind fun ds m => match itemsD ik ds with
      | some xs => lstR (mapR (fun x m => match bindT t x (wipeS r (own.map (·.2))) with | some r' => f r' m | none => .bad) xs m)
      | none => .bad) σ H Q → tLc (tIt X.K (Rws X.K) fi ik) (tTg X.K t) tYes (tG X.K (Rp X.K) f) (own.map (·.2)) σ H Q := fun σ H Q ⟨M, O, G, r, m, R, w⟩ => by
    refine comp_core (c := fun _ m => .ok true m) (f := f) (fun σ H Q h => bool_hereT h) (fun σ H Q h => h) (tg_own ho).1 R ?_
    have e : ∀ xs m, mapR (fun x m => match bindT t x (wipeS r (own.map (·.2))) with | some r' => f r' m | none => .bad) xs m = mapIfR (fun x m => match bindT t x (wipeS r (own.map (·.2))) with | some r' => .ok true m | none => .bad) (fun x m => match bindT t x (wipeS r (own.map (·.2))) with | some r' => f r' m | none => .bad) xs m := mapR_if fun x m => by
      cases bindT t x (wipeS r (own.map (·.2))) with
      | none => exact .inr ⟨rfl, rfl⟩
      | some _ => exact .inl rfl
    simp only [e] at w
    exact w
  refine ⟨?_, fun i y py spos hy hyl hsw => ?_, fun r m => lstO_comp (F := fun xs m => mapR (fun x m => match bindT t x (wipeS r (own.map (·.2))) with | some r' => f r' m | none => .bad) xs m)⟩
  · exact pe_imp (pe_lc (g := tTg X.K t) (te := tG X.K (Rp X.K) f) (tt := tYes) hk.calm hn hi hb' (fun s H CC cl fp => pg_tg (X := X.blk s H scope (compEnvC scope cl CC X.env) fp) hn hk.calm (tg_blk hk ht s H cl CC fp)) (fun s H CC cl fp => pts_nil) (fun s H CC cl fp => he s H CC cl fp) hs) rd
  · exact ps_imp (ps_setLc (g := tTg X.K t) (te := tG X.K (Rp X.K) f) (tt := tYes) hk.calm hn hy hyl hsw hi hb' (fun s H CC cl fp => pg_tg (X := X.blk s H scope (compEnvC scope cl CC X.env) fp) hn hk.calm (tg_blk hk ht s H cl CC fp)) (fun s H CC cl fp => pts_nil) (fun s H CC cl fp => he s H CC cl fp) hs) fun D σ H w => rd _ _ _ w
theorem f_compIf {C : Cc} {g : Mi.Env0} {k : Nat} (hk : Kn C g k X) {tg iter elt cnd : Expr} {scope : Scope} {own : List (Str × Nat)} {t : Tgt} {ik : IK} {fi : List Slot → Mu → Res (List D)} {f fq : List Slot → Mu → Res D} (hb : blkC C.N X.env.scope scope own = true) (ho : okTg own t ik tg = true) (ht : okT C scope t tg = true)
    (hi : sI X tg iter (Rws X.K) fi ik) (he : ∀ (s : Shared) (H : Hp) (CC : Addr) (cl : List (Str × Addr)) (fp : List Addr), sE (X.blk s H scope (compEnvC scope cl CC X.env) fp) elt f) (hq : ∀ (s : Shared) (H : Hp) (CC : Addr) (cl : List (Str × Addr)) (fp : List Addr), sT (X.blk s H scope (compEnvC scope cl CC X.env) fp) cnd fq)
    (hs : ∀ x, foldedSetIterable iter X.env x = pure x) :
    COk X (.ListComp elt [⟨tg, iter, [cnd], 0⟩] scope pos) fun r m => (fi r m).bind fun ds m => match itemsD ik ds with
      | some xs => lstR (mapIfR (fun x m => match bindT t x (wipeS r (own.map (·.2))) with | some r' => asB (fq r' m) | none => .bad) (fun x m => match bindT t x (wipeS r (own.map (·.2))) with | some r' => f r' m | none => .bad) xs m)
      | none => .bad := by
  have hn : X.N.Nodup := by
    rw [hk.N]
    exact hk.nd
  have hb' : BlkOk X.N X.env.scope scope own := blkOk_by (by rw [hk.N]; exact hb)
  refine ⟨?_, fun i y py spos hy hyl hsw => ?_, fun r m => lstO_comp (F := fun xs m => mapIfR (fun x m => match bindT t x (wipeS r (own.map (·.2))) with | some r' => asB (fq r' m) | none => .bad) (fun x m => match bindT t x (wipeS r (own.map (·.2))) with | some r' => f r' m | none => .bad) xs m)⟩
  · exact pe_imp (pe_lc (g := tTg X.K t) (te := tG X.K (Rp X.K) f) (tt := tG X.K rB fun r m => asB (fq r m)) hk.calm hn hi hb' (fun s H CC cl fp => pg_tg (X := X.blk s H scope (compEnvC scope cl CC X.env) fp) hn hk.calm (tg_blk hk ht s H cl CC fp)) (fun s H CC cl fp => pts_one (hq s H CC cl fp)) (fun s H CC cl fp => he s H CC cl fp) hs) fun σ H Q ⟨M, O, G, r, m, R, w⟩ =>
      comp_core (c := fun r m => asB (fq r m)) (f := f) (fun σ H Q h => h) (fun σ H Q h => h) (tg_own ho).1 R w
  · exact ps_imp (ps_setLc (g := tTg X.K t) (te := tG X.K (Rp X.K) f) (tt := tG X.K rB fun r m => asB (fq r m)) hk.calm hn hy hyl hsw hi hb' (fun s H CC cl fp => pg_tg (X := X.blk s H scope (compEnvC scope cl CC X.env) fp) hn hk.calm (tg_blk hk ht s H cl CC fp)) (fun s H CC cl fp => pts_one (hq s H CC cl fp)) (fun s H CC cl fp => he s H CC cl fp) hs) fun D σ H ⟨M, O, G, r, m, R, w⟩ =>
      comp_core (c := fun r m => asB (fq r m)) (f := f) (fun σ H Q h => h) (fun σ H Q h => h) (tg_own ho).1 R w
end

/-! ### shapes of the text -/
def tame : Expr → Bool
  | .Starred .. => false
  | .Set .. => false
  | .Slice .. => false
  | _ => true
theorem tame_star {a : Expr} {es : List Expr} {env : Env} (h : tame a = true) : starEach (a :: es) env = (false, eval a env) :: starEach es env := by
  cases a <;> first | rfl | cases h
theorem tame_ix {a : Expr} (h : tame a = true) : PlainIx a := by
  intro o i
  cases a <;> first | rfl | cases h
theorem tame_in {a : Expr} {o : CmpOp} (h : tame a = true) : behindInMarks o a = false := by
  cases a <;> first | rfl | cases h
theorem tame_fold {a : Expr} {env : Env} (h : tame a = true) (x : Value) : foldedSetIterable a env x = pure x := by
  cases a <;> first | rfl | cases h
theorem base_ok {a : Expr} {n : Str} {env : Env} (h : noCall0 a = true) : attributeBase a n env (eval a env) = eval a env := by
  cases a <;> first | rfl | skip
  rename_i f as kws pos
  cases f <;> first | rfl | skip
  cases as with
  | nil => cases h
  | cons _ _ => rfl
def plainT : Expr → Bool
  | .UnaryOp .Not _ _ => false
  | .BoolOp .. => false
  | .IfExp .. => false
  | .Compare .. => false
  | _ => true
theorem plain_true {a : Expr} {env : Env} (h : plainT a = true) : ∀ whole, isTrue a env whole = (do let v ← whole; standAt a.pos; holding [v] (truthy v)) := by
  intro w
  cases a <;> first | rfl | cases h | skip
  rename_i o x q
  cases o <;> first | rfl | cases h

structure EOk (X : Cx) (g : Mi.Env0) (e : Ex) (ast : Expr) : Prop where
  v : sE X ast (ev g e)
  x : sX X ast fun r m => vx r e m (ev g e r m)
  t : sT X ast (ev g e)
  tm : tame ast = true
structure LOk (X : Cx) (g : Mi.Env0) (es : Exs) (as : List Expr) : Prop where
  a : sA X as (evs g es)
  x : sXs X as (evx g es)
  k : ∀ kws : List Keyword, kws.map (·.value) = as → sK X kws (evs g es)
  and_ : ∀ pos, sE X (.BoolOp .And as pos) (evAnd g es)
  or_ : ∀ pos, sE X (.BoolOp .Or as pos) (evOr g es)
  andT : ∀ pos, sW X (.BoolOp .And as pos) (evAnd g es)
  orT : ∀ pos, sW X (.BoolOp .Or as pos) (evOr g es)
  pl : ∀ pos, (backTo pos (starEach as X.env)).any (·.1) = false
  tm : ∀ a ∈ as, tame a = true
  len : as.length = es.len
/-- of the expression form alone, where it is plain -/
theorem eok {X : Cx} {g : Mi.Env0} {e : Ex} {ast : Expr} (h : sE X ast (ev g e)) (tm : tame ast = true) (pt : plainT ast = true) (nv : ∀ r m x, vx r e m x = x) : EOk X g e ast :=
  ⟨h, pe_imp (f_rw h) fun σ H Q w => w.eq fun r m => nv r m _, ft_val h (plain_true pt), tm⟩
theorem eok2 {X : Cx} {g : Mi.Env0} {e : Ex} {ast : Expr} (h : sE X ast (ev g e)) (t : sT X ast (ev g e)) (tm : tame ast = true) (nv : ∀ r m x, vx r e m x = x) : EOk X g e ast :=
  ⟨h, pe_imp (f_rw h) fun σ H Q w => w.eq fun r m => nv r m _, t, tm⟩
theorem se_of {X : Cx} {ast : Expr} {f f' : List Slot → Mu → Res D} (h : sE X ast f) (e : ∀ r m, f' r m = f r m) : sE X ast f' := pe_imp h fun σ H Q w => w.eq e
theorem st_of {X : Cx} {ast : Expr} {f f' : List Slot → Mu → Res D} (h : sT X ast f) (e : ∀ r m, f' r m = f r m) : sT X ast f' := pt_imp h fun σ H Q w => w.eq fun r m => by rw [e]
theorem evs_len {g : Mi.Env0} : ∀ (es : Exs) (r : List Slot) (m : Mu) (ds : List D) (m' : Mu), evs g es r m = .ok ds m' → ds.length = es.len
  | .nil, r, m, ds, m', h => by
    simp only [evs] at h
    cases h
    rfl
  | .cons e es, r, m, ds, m', h => by
    simp only [evs] at h
    obtain ⟨d, m1, h1, h2⟩ := bind_ok h
    obtain ⟨l, m2, h3, h4⟩ := bind_ok h2
    cases h4
    rw [List.length_cons, evs_len es r m1 l _ h3]
    rfl
end Mi

set_option linter.all false
set_option maxRecDepth 100000
set_option maxHeartbeats 8000000
/-! Mi13: every expression. -/
namespace Mi
open PySem PySem.Spec PyProof.Rows L2

theorem LOk.one {X : Cx} {g : Mi.Env0} {es : Exs} {a : Expr} (h : LOk X g es [a]) : tame a = true := h.tm a (by simp)
theorem LOk.two {X : Cx} {g : Mi.Env0} {es : Exs} {a b : Expr} (h : LOk X g es [a, b]) : tame a = true ∧ tame b = true := ⟨h.tm a (by simp), h.tm b (by simp)⟩
theorem it_ok {C : Cc} {g : Mi.Env0} {k : Nat} {X : Cx} (hk : Kn C g k X) {ik : IK} {its : Exs} {it tg : Expr} {P : Rel (List D) (List V)} (hP : InRw X.K P) {fs : List Slot → Mu → Res (List D)} (hL : ∀ as, okEs C X.env.scope its as = true → (∀ a ∈ as, tame a = true) ∧ PA X as (tG X.K P fs)) (h : okIt C X.env.scope ik its it = true) (ht : ik = .enum ∨ ik = .zip → tupT tg = true)
    (h1 : ∀ a, okEs C X.env.scope its [a] = true → ∃ (fa : List Slot → Mu → Res D) (Pa : Rel D V), tame a = true ∧ PE X a (tG X.K Pa fa) ∧ (∀ r m, fs r m = (fa r m).bind fun d m => .ok [d] m) ∧ (∀ {B : Addr → Prop} {G : List Addr} {H : Hp} {d : D} {v : V}, Pa B G H d v → Rw X.K B G H d v) ∧ (∀ {B : Addr → Prop} {G : List Addr} {H : Hp} {d : D} {v : V}, Pa B G H d v → P B G H [d] [v])) : sI X tg it P fs ik ∧ ∀ x, foldedSetIterable it X.env x = pure x := by
  cases ik with
  | seq =>
    obtain ⟨fa, Pa, q1, q2, q3, q4, q5⟩ := h1 it (by unfold okIt okItB at h; exact h)
    refine ⟨?_, tame_fold q1⟩
    have := f_it1 (tg := tg) (P := P) q4 q5 q2
    refine ⟨fun pins s σ H R I w => this.run pins s σ H R I ?_⟩
    obtain ⟨M, O, G, r, m, R1, w⟩ := w
    refine ⟨M, O, G, r, m, R1, ?_⟩
    rw [q3] at w
    exact w
  | range1 =>
    unfold okIt okItB at h
    dsimp only at h
    split at h
    · simp only [Bool.and_eq_true, decide_eq_true_eq] at h
      obtain ⟨⟨rfl, h2⟩, h3⟩ := h
      have q := hL _ h3
      exact ⟨f_rng1 hP (gl_of h2).1 (hk.blt _ (by simp [bltNames])) q.2 (tame_star (q.1 _ (by simp))), fun x => rfl⟩
    · cases h
  | range2 =>
    unfold okIt okItB at h
    dsimp only at h
    split at h
    · simp only [Bool.and_eq_true, decide_eq_true_eq] at h
      obtain ⟨⟨rfl, h2⟩, h3⟩ := h
      have q := hL _ h3
      exact ⟨f_rng2 hP (gl_of h2).1 (hk.blt _ (by simp [bltNames])) q.2 (by rw [tame_star (q.1 _ (by simp)), tame_star (q.1 _ (by simp))]; rfl) (tame_star (q.1 _ (by simp))), fun x => rfl⟩
    · cases h
  | enum =>
    unfold okIt okItB at h
    dsimp only at h
    split at h
    · simp only [Bool.and_eq_true, decide_eq_true_eq] at h
      obtain ⟨⟨rfl, h2⟩, h3⟩ := h
      have q := hL _ h3
      have ht := ht (.inl rfl)
      cases tg <;> first | cases ht | skip
      exact ⟨f_enum hP (gl_of h2).1 (hk.blt _ (by simp [bltNames])) q.2 (tame_star (q.1 _ (by simp))), fun x => rfl⟩
    · cases h
  | zip =>
    unfold okIt okItB at h
    dsimp only at h
    split at h
    · simp only [Bool.and_eq_true, decide_eq_true_eq] at h
      obtain ⟨⟨rfl, h2⟩, h3⟩ := h
      have q := hL _ h3
      have ht := ht (.inr rfl)
      cases tg <;> first | cases ht | skip
      exact ⟨f_zip hP (gl_of h2).1 (hk.blt _ (by simp [bltNames])) q.2 (tame_star (q.1 _ (by simp))) (by rw [tame_star (q.1 _ (by simp))]; rfl), fun x => rfl⟩
    · cases h
theorem it_okx {C : Cc} {g : Mi.Env0} {k : Nat} {X : Cx} (hk : Kn C g k X) {ik : IK} {its : Exs} {it tg : Expr} (hL : ∀ as, okEs C X.env.scope its as = true → LOk X g its as) (h : okIt C X.env.scope ik its it = true) (ht : ik = .enum ∨ ik = .zip → tupT tg = true)
    (h1 : ∀ a, okEs C X.env.scope its [a] = true → ∃ e, its = .cons e .nil ∧ EOk X g e a) : sI X tg it (Rws X.K) (evx g its) ik ∧ ∀ x, foldedSetIterable it X.env x = pure x :=
  it_ok hk (P := Rws X.K) (fun h => h) (fun as q => ⟨(hL as q).tm, (hL as q).x⟩) h ht fun a q0 => by
    obtain ⟨e, rfl, q⟩ := h1 a q0
    exact ⟨_, Rw X.K, q.tm, q.x, fun r m => by simp only [evx] <;> rfl, fun h => h, fun h => .cons h .nil⟩
/-- .. for a for, whose things are values -/
theorem it_oks {C : Cc} {g : Mi.Env0} {k : Nat} {X : Cx} (hk : Kn C g k X) {ik : IK} {its : Exs} {it tg : Expr} (hL : ∀ as, okEs C X.env.scope its as = true → LOk X g its as) (h : okIt C X.env.scope ik its it = true) (ht : ik = .enum ∨ ik = .zip → tupT tg = true)
    (h1 : ∀ a, okEs C X.env.scope its [a] = true → ∃ e, its = .cons e .nil ∧ EOk X g e a) : sI X tg it (Rps X.K) (evs g its) ik ∧ ∀ x, foldedSetIterable it X.env x = pure x :=
  it_ok hk (P := Rps X.K) (fun h => Rws.of h) (fun as q => ⟨(hL as q).tm, (hL as q).a⟩) h ht fun a q0 => by
    obtain ⟨e, rfl, q⟩ := h1 a q0
    exact ⟨_, Rp X.K, q.tm, q.v, fun r m => by simp only [evs] <;> rfl, fun h => .inl h, fun h => .cons h .nil⟩
theorem vx_id {e : Ex} (h : ∀ i, e ≠ .view i) : ∀ r m x, vx r e m x = x := by
  intro r m x
  cases e <;> first | rfl | exact absurd rfl (h _)
theorem b1_in : ∀ b : B1, b.name ∈ bltNames := by intro b; cases b <;> simp [bltNames, B1.name]
theorem b2_in : ∀ b : B2, b.name ∈ bltNames := by intro b; cases b <;> simp [bltNames, B2.name]
theorem ty_in : ∀ b : Ty, b.name ∈ bltNames := by intro b; cases b <;> simp [bltNames, Ty.name]
theorem gl_con {C : Cc} {g : Mi.Env0} {k : Nat} {X : Cx} (hk : Kn C g k X) {i : Nat} {x : Str} {p : Pos} (h1 : C.gls[i]? = some x) (h2 : glB X.env.scope x = true) : sE X (.Name x p) (fun r m => Res.of g.consts[i]? m) := by
  cases e : g.consts[i]? with
  | none => exact ⟨fun _ _ _ _ _ _ ⟨_, _, _, _, _, _, w⟩ => False.elim w⟩
  | some d =>
    obtain ⟨u, v, q1, q2, q3⟩ := hk.con i x d h1 e
    obtain ⟨g1, g2, g3⟩ := gl_of h2
    exact f_const d v (pe_glob g1 q1 q2 g2) q3

mutual
theorem main_E (C : Cc) (g : Mi.Env0) (k : Nat) : ∀ (e : Ex) (X : Cx) (ast : Expr), Kn C g k X → okE C X.env.scope e ast = true → EOk X g e ast
  | .cst c, X, ast, hk, h => by
    unfold okE at h
    split at h
    · simp only [Bool.and_eq_true, decide_eq_true_eq] at h
      obtain ⟨rfl, h2⟩ := h
      refine eok ?_ rfl rfl (fun _ _ _ => rfl)
      cases c <;> first | (cases h2; done) | skip
      · exact se_of (f_const .non .non pe_non fun _ _ _ => .non) fun r m => by simp only [ev] <;> rfl
      · exact se_of (f_const (.bl _) (.bl _) pe_bl fun _ _ _ => .bl _) fun r m => by simp only [ev] <;> rfl
      · exact se_of (f_const (.int _) (.int _) pe_int fun _ _ _ => .int _) fun r m => by simp only [ev] <;> rfl
      · exact se_of (f_const (.str _) (.str _) pe_str fun _ _ _ => .str _) fun r m => by simp only [ev] <;> rfl
    · cases h
  | .var i, X, ast, hk, h => by
    unfold okE at h
    split at h
    · simp only [Bool.and_eq_true] at h
      obtain ⟨⟨h1, h2⟩, h3⟩ := h
      exact eok (se_of (f_var (pe_var (by rw [hk.N]; exact slot_of h1) (vis_of h2) (nm_of h3).1 (nm_of h3).2)) fun r m => by simp only [ev] <;> rfl) rfl rfl (fun _ _ _ => rfl)
    · cases h
  | .view i, X, ast, hk, h => by
    unfold okE at h
    split at h
    · simp only [Bool.and_eq_true] at h
      obtain ⟨⟨h1, h2⟩, h3⟩ := h
      rename_i y q
      have b : sE X (.Name y q) (ev g (.view i)) := se_of (f_bad (X := X)) fun r m => by simp only [ev]
      exact ⟨b, pe_imp (f_view (pe_var (by rw [hk.N]; exact slot_of h1) (vis_of h2) (nm_of h3).1 (nm_of h3).2)) fun σ H Q w => w.eq fun r m => by simp only [vx] <;> rfl, ft_val b (plain_true rfl), rfl⟩
    · cases h
  | .glb i, X, ast, hk, h => by
    unfold okE at h
    split at h
    · simp only [Bool.and_eq_true, decide_eq_true_eq] at h
      exact eok (se_of (gl_con hk h.1 h.2) fun r m => by simp only [ev]) rfl rfl (fun _ _ _ => rfl)
    · cases h
  | .tup es, X, ast, hk, h => by
    unfold okE at h
    split at h
    · simp only [Bool.and_eq_true, decide_eq_true_eq] at h
      have q := main_L C g k es X _ hk h.2
      exact eok (se_of (f_tup q.a fun r m ds m' e => by rw [evs_len es r m ds m' e]; exact h.1) fun r m => by simp only [ev]) rfl rfl (fun _ _ _ => rfl)
    · cases h
  | .lst es, X, ast, hk, h => by
    unfold okE at h
    split at h
    · simp only [Bool.and_eq_true, decide_eq_true_eq] at h
      have q := main_L C g k es X _ hk h.2
      exact eok (se_of (f_lst q.a fun r m ds m' e => by rw [evs_len es r m ds m' e]; exact h.1) fun r m => by simp only [ev]) rfl rfl (fun _ _ _ => rfl)
    · cases h
  | .op o a b, X, ast, hk, h => by
    unfold okE at h
    split at h
    · simp only [Bool.and_eq_true, decide_eq_true_eq] at h
      obtain ⟨⟨rfl, h2⟩, h3⟩ := h
      have qa := main_E C g k a X _ hk h2
      have qb := main_E C g k b X _ hk h3
      exact eok (se_of (f_op qa.x qb.x) fun r m => by simp only [ev]) rfl rfl (fun _ _ _ => rfl)
    · cases h
  | .neg a, X, ast, hk, h => by
    unfold okE at h
    split at h
    · have qa := main_E C g k a X _ hk h
      exact eok (se_of (f_neg qa.v) fun r m => by simp only [ev]) rfl rfl (fun _ _ _ => rfl)
    · cases h
  | .not a, X, ast, hk, h => by
    unfold okE at h
    split at h
    · have qa := main_E C g k a X _ hk h
      exact eok2 (se_of (f_not qa.v) fun r m => by simp only [ev]) (st_of (ft_not qa.t) fun r m => by simp only [ev]) rfl (fun _ _ _ => rfl)
    · cases h
  | .cmp o a b, X, ast, hk, h => by
    unfold okE at h
    split at h
    · simp only [Bool.and_eq_true, decide_eq_true_eq] at h
      obtain ⟨⟨rfl, h2⟩, h3⟩ := h
      have qa := main_E C g k a X _ hk h2
      have qb := main_E C g k b X _ hk h3
      exact eok2 (se_of (f_cmp hk.units qa.x qb.x (tame_in qb.tm)) fun r m => by simp only [ev]) (st_of (ft_cmp hk.units qa.x qb.x (tame_in qb.tm)) fun r m => by simp only [ev]) rfl (fun _ _ _ => rfl)
    · cases h
  | .cmp2 o p a b c, X, ast, hk, h => by
    unfold okE at h
    split at h
    · simp only [Bool.and_eq_true, decide_eq_true_eq] at h
      obtain ⟨⟨⟨⟨rfl, rfl⟩, h2⟩, h3⟩, h4⟩ := h
      have qa := main_E C g k a X _ hk h2
      have qb := main_E C g k b X _ hk h3
      have qc := main_E C g k c X _ hk h4
      exact eok2 (se_of (f_cmp2 hk.units qa.v qb.v qc.v (tame_in qc.tm)) fun r m => by simp only [ev, chainR] <;> rfl) (st_of (ft_cmp2 hk.units qa.v qb.v qc.v (tame_in qc.tm)) fun r m => by simp only [ev, chainR] <;> rfl) rfl (fun _ _ _ => rfl)
    · cases h
  | .and es, X, ast, hk, h => by
    unfold okE at h
    split at h
    · have q := main_L C g k es X _ hk h
      exact eok2 (se_of (q.and_ _) fun r m => by simp only [ev]) (st_of (q.andT _).pt fun r m => by simp only [ev]) rfl (fun _ _ _ => rfl)
    · cases h
  | .or es, X, ast, hk, h => by
    unfold okE at h
    split at h
    · have q := main_L C g k es X _ hk h
      exact eok2 (se_of (q.or_ _) fun r m => by simp only [ev]) (st_of (q.orT _).pt fun r m => by simp only [ev]) rfl (fun _ _ _ => rfl)
    · cases h
  | .ite c a b, X, ast, hk, h => by
    unfold okE at h
    split at h
    · simp only [Bool.and_eq_true] at h
      obtain ⟨⟨h1, h2⟩, h3⟩ := h
      have qc := main_E C g k c X _ hk h1
      have qa := main_E C g k a X _ hk h2
      have qb := main_E C g k b X _ hk h3
      exact eok2 (se_of (f_ite qc.t qa.v qb.v) fun r m => by simp only [ev]) (st_of (ft_ite qc.t qa.t qb.t) fun r m => by simp only [ev]) rfl (fun _ _ _ => rfl)
    · cases h
  | .call f es, X, ast, hk, h => by
    unfold okE at h
    split at h
    · simp only [Bool.and_eq_true, decide_eq_true_eq] at h
      obtain ⟨⟨h1, h2⟩, h3⟩ := h
      have q := main_L C g k es X _ hk h3
      rename_i x p as pos
      cases as with
      | nil =>
        have hz : es.len = 0 := q.len.symm
        cases es with
        | cons _ _ => cases hz
        | nil => exact eok (se_of (f_call0 hk h1 h2) fun r m => by simp only [ev, evs] <;> rfl) rfl rfl (fun _ _ _ => rfl)
      | cons a r => exact eok (se_of (f_call hk h1 h2 q.a (tame_star (q.tm a (by simp))) (by
          have := q.pl pos
          rw [tame_star (q.tm a (by simp))] at this
          simpa [backTo] using this)) fun r m => by simp only [ev]) rfl rfl (fun _ _ _ => rfl)
    · cases h
  | .callk f es ks ord es2, X, ast, hk, h => by
    unfold okE at h
    split at h
    · simp only [Bool.and_eq_true, decide_eq_true_eq] at h
      obtain ⟨⟨⟨⟨⟨h1, h2⟩, h3⟩, h4⟩, h5⟩, h6⟩ := h
      have q := main_L C g k es X _ hk h3
      have q2 := main_L C g k es2 X _ hk h5
      rename_i x p as kws pos
      have hl2 : es2.len = ks.length := by
        rw [← q2.len, List.length_map]
        have := congrArg List.length h4
        simpa [kwNames] using this
      have hn2 : ∀ r m ds m', evs g es2 r m = .ok ds m' → ds.length = ks.length := fun r m ds m' e => by rw [evs_len es2 r m ds m' e, hl2]
      cases as with
      | nil =>
        have hz : es.len = 0 := q.len.symm
        cases es with
        | cons _ _ => cases hz
        | nil => exact eok (se_of (f_callk0 hk h1 h2 hn2 (q2.k kws rfl) h4 h6) fun r m => by simp only [ev, evs] <;> rfl) rfl rfl (fun _ _ _ => rfl)
      | cons a r => exact eok (se_of (f_callk hk h1 h2 q.a (fun r m ds m' e => evs_len es r m ds m' e) hn2 (q2.k kws rfl) h4 h6 (tame_star (q.tm a (by simp))) (by
          have := q.pl pos
          rw [tame_star (q.tm a (by simp))] at this
          simpa [backTo] using this)) fun r m => by simp only [ev] <;> rfl) rfl rfl (fun _ _ _ => rfl)
    · cases h
  | .b1 b a, X, ast, hk, h => by
    unfold okE at h
    split at h
    · simp only [Bool.and_eq_true, decide_eq_true_eq] at h
      obtain ⟨⟨rfl, h2⟩, h3⟩ := h
      have qa := main_E C g k a X _ hk h3
      exact eok (se_of (f_b1 hk.sm hk.calm hk.gd hk.units (gl_of h2).1 (hk.blt _ (b1_in b)) qa.x (tame_star qa.tm)) fun r m => by simp only [ev]) rfl rfl (fun _ _ _ => rfl)
    · cases h
  | .b2 b a c, X, ast, hk, h => by
    unfold okE at h
    split at h
    · simp only [Bool.and_eq_true, decide_eq_true_eq] at h
      obtain ⟨⟨⟨rfl, h2⟩, h3⟩, h4⟩ := h
      have qa := main_E C g k a X _ hk h3
      have qc := main_E C g k c X _ hk h4
      exact eok (se_of (f_b2 hk.calm (gl_of h2).1 (hk.blt _ (b2_in b)) qa.v qc.v (tame_star qa.tm) (tame_star qc.tm)) fun r m => by simp only [ev]) rfl rfl (fun _ _ _ => rfl)
    · cases h
  | .max3 a b c, X, ast, hk, h => by
    unfold okE at h
    split at h
    · simp only [Bool.and_eq_true, decide_eq_true_eq] at h
      obtain ⟨⟨⟨⟨rfl, h2⟩, h3⟩, h4⟩, h5⟩ := h
      have qa := main_E C g k a X _ hk h3
      have qb := main_E C g k b X _ hk h4
      have qc := main_E C g k c X _ hk h5
      exact eok (se_of (f_max3 hk.calm (gl_of h2).1 (hk.blt _ (by simp [bltNames])) qa.v qb.v qc.v (tame_star qa.tm) (tame_star qb.tm) (tame_star qc.tm)) fun r m => by simp only [ev]) rfl rfl (fun _ _ _ => rfl)
    · cases h
  | .isa t a, X, ast, hk, h => by
    unfold okE at h
    split at h
    · simp only [Bool.and_eq_true, decide_eq_true_eq] at h
      obtain ⟨⟨⟨rfl, h2⟩, h3⟩, h4⟩ := h
      have qa := main_E C g k a X _ hk h3
      refine eok ?_ rfl rfl (fun _ _ _ => rfl)
      unfold okTy at h4
      split at h4
      · simp only [Bool.and_eq_true, decide_eq_true_eq, bne_iff_ne] at h4
        obtain ⟨⟨h5, rfl⟩, h6⟩ := h4
        exact se_of (f_isa h5 (gl_of h2).1 (hk.blt _ (by simp [bltNames])) h6 (hk.blt _ (ty_in t)) qa.v (tame_star qa.tm)) fun r m => by simp only [ev]
      · simp only [Bool.and_eq_true, decide_eq_true_eq, beq_iff_eq] at h4
        obtain ⟨⟨⟨rfl, h5⟩, h6⟩, h7⟩ := h4
        rw [Bool.or_eq_true, Bool.and_eq_true, Bool.and_eq_true, decide_eq_true_eq, decide_eq_true_eq, decide_eq_true_eq, decide_eq_true_eq] at h5
        rcases h5 with ⟨rfl, rfl⟩ | ⟨rfl, rfl⟩
        case inr => exact se_of (f_isaS2 (gl_of h2).1 (hk.blt _ (by simp [bltNames])) h7 (hk.blt _ (by simp [bltNames])) h6 (hk.blt _ (by simp [bltNames])) qa.v (tame_star qa.tm)) fun r m => by simp only [ev]
        exact se_of (f_isaS (gl_of h2).1 (hk.blt _ (by simp [bltNames])) h6 (hk.blt _ (by simp [bltNames])) h7 (hk.blt _ (by simp [bltNames])) qa.v (tame_star qa.tm)) fun r m => by simp only [ev]
      · cases h4
    · cases h
  | .m1 kk a b, X, ast, hk, h => by
    unfold okE at h
    split at h
    · simp only [Bool.and_eq_true, decide_eq_true_eq] at h
      obtain ⟨⟨⟨⟨rfl, h2⟩, h3⟩, h4⟩, h5⟩ := h
      have qa := main_E C g k a X _ hk h4
      have qb := main_E C g k b X _ hk h5
      exact eok (se_of (f_m1 qa.v qb.x (tame_star qb.tm) (base_ok h3) h2) fun r m => by simp only [ev]) rfl rfl (fun _ _ _ => rfl)
    · cases h
  | .idx a i, X, ast, hk, h => by
    unfold okE at h
    split at h
    · simp only [Bool.and_eq_true] at h
      have qa := main_E C g k a X _ hk h.1
      have qb := main_E C g k i X _ hk h.2
      exact eok (se_of (f_idx qa.x qb.v (tame_ix qb.tm)) fun r m => by simp only [ev]) rfl rfl (fun _ _ _ => rfl)
    · cases h
  | .slB a i j, X, ast, hk, h => by
    unfold okE at h
    split at h
    · simp only [Bool.and_eq_true] at h
      have qa := main_E C g k a X _ hk h.1.1
      have qb := main_E C g k i X _ hk h.1.2
      have qc := main_E C g k j X _ hk h.2
      exact eok (se_of (f_slB qa.x qb.v qc.v) fun r m => by simp only [ev]) rfl rfl (fun _ _ _ => rfl)
    · cases h
  | .slL a i, X, ast, hk, h => by
    unfold okE at h
    split at h
    · simp only [Bool.and_eq_true] at h
      have qa := main_E C g k a X _ hk h.1
      have qb := main_E C g k i X _ hk h.2
      exact eok (se_of (f_slL qa.x qb.v) fun r m => by simp only [ev]) rfl rfl (fun _ _ _ => rfl)
    · cases h
  | .slH a i, X, ast, hk, h => by
    unfold okE at h
    split at h
    · simp only [Bool.and_eq_true] at h
      have qa := main_E C g k a X _ hk h.1
      have qb := main_E C g k i X _ hk h.2
      exact eok (se_of (f_slH qa.x qb.v) fun r m => by simp only [ev]) rfl rfl (fun _ _ _ => rfl)
    · cases h
  | .dic0, X, ast, hk, h => by
    unfold okE at h
    split at h
    · exact eok (se_of f_dic0 fun r m => by simp only [ev]) rfl rfl (fun _ _ _ => rfl)
    · cases h
  | .sp kk a, X, ast, hk, h => by
    unfold okE at h
    split at h
    · rename_i y hy
      have qa := main_E C g k a X _ hk h
      unfold spArg at hy
      split at hy <;> first | (cases hy; done) | skip
      · split at hy
        · rename_i hb
          cases hy
          simp only [Bool.and_eq_true, decide_eq_true_eq] at hb
          obtain ⟨⟨⟨rfl, rfl⟩, h1⟩, h2⟩ := hb
          exact eok (se_of (f_lenSet hk.calm (gl_of h1).1 (hk.blt _ (by simp [bltNames])) (gl_of h2).1 (hk.blt _ (by simp [bltNames])) qa.x (tame_star qa.tm)) fun r m => by simp only [ev]) rfl rfl (fun _ _ _ => rfl)
        · cases hy
      · split at hy
        · rename_i hb
          cases hy
          simp only [Bool.and_eq_true, decide_eq_true_eq] at hb
          obtain ⟨⟨⟨rfl, rfl⟩, h1⟩, h2⟩ := hb
          exact eok (se_of (f_sortSet hk.calm (gl_of h1).1 (hk.blt _ (by simp [bltNames])) (gl_of h2).1 (hk.blt _ (by simp [bltNames])) qa.x (tame_star qa.tm)) fun r m => by simp only [ev]) rfl rfl (fun _ _ _ => rfl)
        · cases hy
      · split at hy
        · rename_i hb
          cases hy
          simp only [Bool.and_eq_true, decide_eq_true_eq] at hb
          obtain ⟨⟨⟨rfl, rfl⟩, h1⟩, h2⟩ := hb
          exact eok (se_of (f_listRange hk.calm (gl_of h1).1 (hk.blt _ (by simp [bltNames])) (gl_of h2).1 (hk.blt _ (by simp [bltNames])) qa.x (tame_star qa.tm)) fun r m => by simp only [ev]) rfl rfl (fun _ _ _ => rfl)
        · cases hy
      · split at hy
        · rename_i hb
          cases hy
          simp only [Bool.and_eq_true, decide_eq_true_eq] at hb
          obtain ⟨⟨⟨rfl, rfl⟩, h1⟩, h2⟩ := hb
          exact eok (se_of (f_tupRange hk.calm (gl_of h1).1 (hk.blt _ (by simp [bltNames])) (gl_of h2).1 (hk.blt _ (by simp [bltNames])) qa.x (tame_star qa.tm)) fun r m => by simp only [ev]) rfl rfl (fun _ _ _ => rfl)
        · cases hy
      · cases hy
        exact eok (se_of (f_rev qa.x) fun r m => by simp only [ev]) rfl rfl (fun _ _ _ => rfl)
    · cases h
  | .comp own elt tg ik its, X, ast, hk, h => by
    unfold okE at h
    split at h
    · simp only [Bool.and_eq_true] at h
      obtain ⟨⟨⟨⟨h1, h2⟩, h3⟩, h4⟩, h5⟩ := h
      have hL : ∀ as, okEs C X.env.scope its as = true → LOk X g its as := fun as q => main_L C g k its X as hk q
      have h1' : ∀ a, okEs C X.env.scope its [a] = true → ∃ e, its = .cons e .nil ∧ EOk X g e a := main_1 C g k its X hk
      have qi := it_okx hk hL h5 (tg_own h2).2 h1'
      exact eok (se_of (f_comp hk h1 h2 h4 qi.1 (fun s H CC cl fp => (main_E C g k elt _ _ (hk.blk s H _ _ fp) h3).v) qi.2).e fun r m => by simp only [ev] <;> rfl) rfl rfl (fun _ _ _ => rfl)
    · cases h
  | .compIf own elt tg ik its c, X, ast, hk, h => by
    unfold okE at h
    split at h
    · simp only [Bool.and_eq_true] at h
      obtain ⟨⟨⟨⟨⟨h1, h2⟩, h3⟩, h6⟩, h4⟩, h5⟩ := h
      have hL : ∀ as, okEs C X.env.scope its as = true → LOk X g its as := fun as q => main_L C g k its X as hk q
      have h1' : ∀ a, okEs C X.env.scope its [a] = true → ∃ e, its = .cons e .nil ∧ EOk X g e a := main_1 C g k its X hk
      have qi := it_okx hk hL h5 (tg_own h2).2 h1'
      exact eok (se_of (f_compIf hk h1 h2 h4 qi.1 (fun s H CC cl fp => (main_E C g k elt _ _ (hk.blk s H _ _ fp) h3).v) (fun s H CC cl fp => (main_E C g k c _ _ (hk.blk s H _ _ fp) h6).t) qi.2).e fun r m => by simp only [ev] <;> rfl) rfl rfl (fun _ _ _ => rfl)
    · cases h
theorem main_1 (C : Cc) (g : Mi.Env0) (k : Nat) : ∀ (es : Exs) (X : Cx), Kn C g k X → ∀ a, okEs C X.env.scope es [a] = true → ∃ e, es = .cons e .nil ∧ EOk X g e a
  | .nil, X, hk, a, h => by
    simp [okEs] at h
  | .cons e .nil, X, hk, a, h => by
    simp only [okEs, Bool.and_eq_true] at h
    exact ⟨e, rfl, main_E C g k e X a hk h.1⟩
  | .cons e (.cons _ _), X, hk, a, h => by
    simp [okEs] at h
theorem main_L (C : Cc) (g : Mi.Env0) (k : Nat) : ∀ (es : Exs) (X : Cx) (as : List Expr), Kn C g k X → okEs C X.env.scope es as = true → LOk X g es as
  | .nil, X, as, hk, h => by
    cases as with
    | cons _ _ => simp [okEs] at h
    | nil =>
      refine ⟨?_, ?_, ?_, ?_, ?_, ?_, ?_, ?_, ?_, rfl⟩
      · exact pa_imp f_nil fun σ H Q w => w.eq fun r m => by simp only [evs]
      · exact pa_imp f_nilx fun σ H Q w => w.eq fun r m => by simp only [evx]
      · intro kws e
        cases kws with
        | nil => exact pk_imp f_knil fun σ H Q w => w.eq fun r m => by simp only [evs]
        | cons _ _ => cases e
      · exact fun pos => se_of f_bad fun r m => by simp only [evAnd]
      · exact fun pos => se_of f_bad fun r m => by simp only [evOr]
      · exact fun pos => ⟨fun _ _ _ _ _ _ _ ⟨_, _, _, _, _, _, w⟩ => by
          simp only [evAnd] at w
          exact False.elim w⟩
      · exact fun pos => ⟨fun _ _ _ _ _ _ _ ⟨_, _, _, _, _, _, w⟩ => by
          simp only [evOr] at w
          exact False.elim w⟩
      · exact fun _ => rfl
      · exact fun a ha => by cases ha
  | .cons e es, X, as, hk, h => by
    cases as with
    | nil => simp [okEs] at h
    | cons a as =>
      simp only [okEs, Bool.and_eq_true] at h
      have q := main_E C g k e X a hk h.1
      have t := main_L C g k es X as hk h.2
      have hs := tame_star (env := X.env) (es := as) q.tm
      refine ⟨?_, ?_, ?_, ?_, ?_, ?_, ?_, ?_, ?_, ?_⟩
      · exact pa_imp (f_cons q.v t.a hs) fun σ H Q w => w.eq fun r m => by simp only [evs]
      · exact pa_imp (f_consx q.x t.x hs) fun σ H Q w => w.eq fun r m => by simp only [evx]
      · intro kws ek
        cases kws with
        | nil => cases ek
        | cons kw kws =>
          obtain ⟨nm, v, kp⟩ := kw
          have e1 : v = a ∧ kws.map (·.value) = as := by simpa using ek
          obtain ⟨rfl, e2⟩ := e1
          exact pk_imp (f_kcons q.v (t.k kws e2)) fun σ H Q w => w.eq fun r m => by simp only [evs]
      · intro pos
        cases es with
        | nil =>
          have : as = [] := List.eq_nil_of_length_eq_zero t.len
          subst this
          exact se_of (pe_one q.v) fun r m => by simp only [evAnd]
        | cons e2 es2 =>
          cases as with
          | nil => cases t.len
          | cons b as2 => exact se_of (f_and q.v (t.and_ pos)) fun r m => by simp only [evAnd]
      · intro pos
        cases es with
        | nil =>
          have : as = [] := List.eq_nil_of_length_eq_zero t.len
          subst this
          exact se_of (pe_one q.v) fun r m => by simp only [evOr]
        | cons e2 es2 =>
          cases as with
          | nil => cases t.len
          | cons b as2 => exact se_of (f_or q.v (t.or_ pos)) fun r m => by simp only [evOr]
      · intro pos
        cases es with
        | nil =>
          have : as = [] := List.eq_nil_of_length_eq_zero t.len
          subst this
          exact pw_imp (pw_and1 q.t) fun σ H Q w => w.eq fun r m => by simp only [evAnd]
        | cons e2 es2 =>
          cases as with
          | nil => cases t.len
          | cons b as2 => exact pw_imp (fw_and q.t (t.andT pos)) fun σ H Q w => w.eq fun r m => by simp only [evAnd]
      · intro pos
        cases es with
        | nil =>
          have : as = [] := List.eq_nil_of_length_eq_zero t.len
          subst this
          exact pw_imp (pw_or1 q.t) fun σ H Q w => w.eq fun r m => by simp only [evOr]
        | cons e2 es2 =>
          cases as with
          | nil => cases t.len
          | cons b as2 => exact pw_imp (fw_or q.t (t.orT pos)) fun σ H Q w => w.eq fun r m => by simp only [evOr]
      · intro pos
        have := t.pl pos
        rw [hs]
        simpa [backTo] using this
      · intro b hb
        rcases List.mem_cons.mp hb with z | z
        · rw [z]
          exact q.tm
        · exact t.tm b z
      · rw [List.length_cons, t.len]
        rfl
end
/-- a comprehension as a statement stores it -/
def isComp : Ex → Bool
  | .comp .. => true
  | .compIf .. => true
  | _ => false
theorem tN.eq {K : PySem.W.Frag} {f f' : List Slot → Mu → Res D} {σ : L2.St} {H : Hp} {Q : VK} (h : tN K f σ H Q) (e : ∀ r m, f r m = f' r m) : tN K f' σ H Q := by
  obtain ⟨M, O, G, r, m, R, w⟩ := h
  exact ⟨M, O, G, r, m, R, by rw [← e]; exact w⟩
theorem COk.of {X : Cx} {ast : Expr} {f f' : List Slot → Mu → Res D} (h : COk X ast f) (e : ∀ r m, f' r m = f r m) : COk X ast f' :=
  ⟨pe_imp h.v fun σ H Q w => w.eq e, fun i y py spos h1 h2 h3 => ps_imp (h.s i y py spos h1 h2 h3) fun D σ H w => tN.eq w e, fun r m => by rw [e]; exact h.l r m⟩
theorem main_C (C : Cc) (g : Mi.Env0) (k : Nat) {e : Ex} {X : Cx} {ast : Expr} (hk : Kn C g k X) (h : okE C X.env.scope e ast = true) (hc : isComp e = true) : COk X ast (ev g e) := by
  cases e <;> first | (cases hc; done) | skip
  · unfold okE at h
    split at h
    · simp only [Bool.and_eq_true] at h
      obtain ⟨⟨⟨⟨h1, h2⟩, h3⟩, h4⟩, h5⟩ := h
      have qi := it_okx hk (fun as q => main_L C g k _ X as hk q) h5 (tg_own h2).2 (main_1 C g k _ X hk)
      exact (f_comp hk h1 h2 h4 qi.1 (fun s H CC cl fp => (main_E C g k _ _ _ (hk.blk s H _ _ fp) h3).v) qi.2).of fun r m => by simp only [ev] <;> rfl
    · cases h
  · unfold okE at h
    split at h
    · simp only [Bool.and_eq_true] at h
      obtain ⟨⟨⟨⟨⟨h1, h2⟩, h3⟩, h6⟩, h4⟩, h5⟩ := h
      have qi := it_okx hk (fun as q => main_L C g k _ X as hk q) h5 (tg_own h2).2 (main_1 C g k _ X hk)
      exact (f_compIf hk h1 h2 h4 qi.1 (fun s H CC cl fp => (main_E C g k _ _ _ (hk.blk s H _ _ fp) h3).v) (fun s H CC cl fp => (main_E C g k _ _ _ (hk.blk s H _ _ fp) h6).t) qi.2).of fun r m => by simp only [ev] <;> rfl
    · cases h
end Mi

set_option linter.all false
set_option maxRecDepth 100000
set_option maxHeartbeats 8000000
/-! Mi14: statements: their readings, one by one. -/
namespace Mi
open PySem PySem.Spec PyProof.Rows L2

/-- what a statement does to the heap: all but the store's lists and the def's own stands as it stood -/
structure GrowS (O : Nat → Option Addr) (G : List Addr) (H : Hp) (O' : Nat → Option Addr) (G' : List Addr) (H' : Hp) : Prop where
  keep : ∀ a o, H a = some o → a ∉ G → (∀ i, O i ≠ some a) → H' a = some o ∧ a ∉ G' ∧ ∀ i, O' i ≠ some a
  pre : ∀ (n : Nat) a, G[n]? = some a → G'[n]? = some a
section
variable {K : PySem.W.Frag} {M : Addr → Prop} {O O1 O2 : Nat → Option Addr} {G G1 G2 : List Addr} {σ σ1 : L2.St} {H H1 H2 : Hp} {r r1 : List Slot} {m m1 : Mu}
theorem GrowS.refl : GrowS O G H O G H := ⟨fun _ _ h n k => ⟨h, n, k⟩, fun _ _ h => h⟩
theorem GrowS.trans (a : GrowS O G H O1 G1 H1) (b : GrowS O1 G1 H1 O2 G2 H2) : GrowS O G H O2 G2 H2 :=
  ⟨fun c o h n k => let ⟨h1, n1, k1⟩ := a.keep c o h n k; b.keep c o h1 n1 k1, fun n c h => b.pre n c (a.pre n c h)⟩
theorem Grow.s (g : Grow G H G1 H1) : GrowS O G H O G1 H1 := ⟨fun a o h n k => ⟨(g.keep a o h n).1, (g.keep a o h n).2, k⟩, g.pre⟩
theorem Grow.own (g : Grow G H G1 H1) {p : Addr} (hp : H p = none) {i : Nat} : GrowS O G H (ownAt O i p) G1 H1 := ⟨fun b o eb nb kb => ⟨(g.keep b o eb nb).1, (g.keep b o eb nb).2, fun j => by
  unfold ownAt
  split
  · exact fun z => by
      cases z
      rw [hp] at eb
      cases eb
  · exact kb j⟩, g.pre⟩
theorem nbad {a : Addr} (h : ¬ Bad M O G a) : ¬ M a ∧ a ∉ G ∧ ∀ i, O i ≠ some a := ⟨fun z => h (.inl z), fun z => h (.inr (.inl z)), fun i z => h (.inr (.inr ⟨i, z⟩))⟩
theorem bad_not {a : Addr} (h1 : ¬ M a) (h2 : a ∉ G) (h3 : ∀ i, O i ≠ some a) : ¬ Bad M O G a := fun z => z.elim h1 fun z => z.elim h2 fun ⟨i, z⟩ => h3 i z
theorem Rep.nlst (R : Rep K M O G σ H r m) {a : Addr} {o : HO} (h : H a = some o) (n : ∀ xs, o ≠ .lst xs) : a ∉ G ∧ ∀ i, O i ≠ some a := by
  refine ⟨fun z => ?_, fun i z => ?_⟩
  · obtain ⟨xs, e⟩ := R.lst z
    rw [h] at e
    cases e
    exact n xs rfl
  · obtain ⟨⟨xs, e⟩, _⟩ := R.ownH i a z
    rw [h] at e
    cases e
    exact n xs rfl
theorem Rep.kns (R : Rep K M O G σ H r m) (g : GrowS O G H O1 G1 H1) : KeepN H H1 := fun a o e n =>
  let ⟨n2, n3⟩ := R.nlst e n
  (g.keep a _ e n2 n3).1
theorem Rps.gs (R : Rep K M O G σ H r m) (g : GrowS O G H O1 G1 H1) {d : List D} {v : List V} (h : Rps K (Bad M O G) G H d v) : Rps K (Bad M O1 G1) G1 H1 d v :=
  Rps.move (fun a xs n e => by
    obtain ⟨n1, n2, n3⟩ := nbad n
    obtain ⟨k1, k2, k3⟩ := g.keep a _ e n2 n3
    exact ⟨bad_not n1 k2 k3, k1⟩) (R.kns g) g.pre h
end
/-- behind a statement -/
def WantS (K : PySem.W.Frag) (M : Addr → Prop) (O : Nat → Option Addr) (G : List Addr) (H : Hp) (x : SRes) (D : Ends) : Prop :=
  match x with
  | .nx r' m' => ∀ O' G' σ' H', GrowS O G H O' G' H' → Rep K M O' G' σ' H' r' m' → D.nx σ' H'
  | .rt d m' => ∀ v r' σ' O' G' H', GrowS O G H O' G' H' → Rep K M O' G' σ' H' r' m' → Rp K (Bad M O' G') G' H' d v → D.rt v H'
  | .ex _ _ _ => False
  | .bad => False
def tS (K : PySem.W.Frag) (f : List Slot → Mu → SRes) : TS := fun D σ H => ∃ M O G r m, Rep K M O G σ H r m ∧ WantS K M O G H (f r m) D
section
variable {K : PySem.W.Frag} {M : Addr → Prop} {O O1 : Nat → Option Addr} {G G1 : List Addr} {σ : L2.St} {H H1 : Hp} {r : List Slot} {m : Mu} {α β : Type} {P : Rel α β} {D D' : Ends}
theorem WantS.grow {x : SRes} (w : WantS K M O G H x D) (g : GrowS O G H O1 G1 H1) : WantS K M O1 G1 H1 x D := by
  cases x with
  | nx r m => exact fun O' G' σ' H' g' R => w O' G' σ' H' (g.trans g') R
  | rt d m => exact fun v r' σ' O' G' H' g' R p => w v r' σ' O' G' H' (g.trans g') R p
  | ex _ _ _ => exact w
  | bad => exact w
theorem WantS.st {x : Res α} {f : α → Mu → SRes} (w : WantS K M O G H (x.st f) D) :
    Want K M O σ r P G H x fun v H1 => ∃ d m1 G1, Grow G H G1 H1 ∧ Rep K M O G1 σ H1 r m1 ∧ P (Bad M O G1) G1 H1 d v ∧ WantS K M O G1 H1 (f d m1) D := by
  cases x with
  | ok d m => exact fun v H' G' g R p => ⟨d, m, G', g, R, p, w.grow g.s⟩
  | ex _ _ _ => exact w
  | bad => exact w
theorem tS1 {fa : List Slot → Mu → Res α} {k : List Slot → α → Mu → SRes} (h : tS K (fun r m => (fa r m).st fun x m => k r x m) D σ H) :
    tG K P fa σ H fun v H1 => ∃ M O G r m x, Rep K M O G σ H1 r m ∧ P (Bad M O G) G H1 x v ∧ WantS K M O G H1 (k r x m) D := by
  obtain ⟨M, O, G, r, m, R, w⟩ := h
  exact ⟨M, O, G, r, m, R, (WantS.st (P := P) w).mono fun v H1 ⟨d, m1, G1, _, R1, p, w1⟩ => ⟨M, O, G1, r, m1, d, R1, p, w1⟩⟩
theorem WantS.here {r' : List Slot} {m' : Mu} {σ' : L2.St} (w : WantS K M O G H (.nx r' m') D) {O' : Nat → Option Addr} {G' : List Addr} {H' : Hp} (g : GrowS O G H O' G' H') (R : Rep K M O' G' σ' H' r' m') : D.nx σ' H' := w O' G' σ' H' g R
theorem tS.eq {f f' : List Slot → Mu → SRes} (h : tS K f D σ H) (e : ∀ r m, f r m = f' r m) : tS K f' D σ H := by
  obtain ⟨M, O, G, r, m, R, w⟩ := h
  exact ⟨M, O, G, r, m, R, by rw [← e]; exact w⟩
theorem tS.again (R : Rep K M O G σ H r m) {f : List Slot → Mu → SRes} (w : WantS K M O G H (f r m) D) : tS K f D σ H := ⟨M, O, G, r, m, R, w⟩
end

section
variable {X : Cx} {a b c : Expr} {pos p : Pos} {fa : List Slot → Mu → Res D}
abbrev zS (X : Cx) (s : Stmt) (f : List Slot → Mu → SRes) : Prop := PS X s (tS X.K f)
abbrev zSs (X : Cx) (s : List Stmt) (f : List Slot → Mu → SRes) : Prop := PSs X s (tS X.K f)
theorem pss_imp {st : List Stmt} {t t' : TS} (h : PSs X st t) (i : ∀ D σ H, t' D σ H → t D σ H) : PSs X st t' := ⟨fun pins s σ H D I w => h.run pins s σ H D I (i D σ H w)⟩
theorem zs_of {s : Stmt} {f f' : List Slot → Mu → SRes} (h : zS X s f) (e : ∀ r m, f' r m = f r m) : zS X s f' := ps_imp h fun D σ H w => w.eq e
theorem zss_of {s : List Stmt} {f f' : List Slot → Mu → SRes} (h : zSs X s f) (e : ∀ r m, f' r m = f r m) : zSs X s f' := pss_imp h fun D σ H w => w.eq e
theorem z_nil : zSs X [] fun r m => .nx r m := pss_imp pss_nil fun D σ H ⟨M, O, G, r, m, R, w⟩ => w O G σ H .refl R
theorem z_cons {s : Stmt} {ss : List Stmt} {f1 f2 : List Slot → Mu → SRes} (h1 : zS X s f1) (h2 : zSs X ss f2) : zSs X (s :: ss) fun r m => match f1 r m with
    | .nx r m => f2 r m
    | o => o :=
  pss_imp (pss_cons h1 h2) fun D σ H ⟨M, O, G, r, m, R, w⟩ => ⟨M, O, G, r, m, R, by
    dsimp only at w
    cases e : f1 r m with
    | nx r1 m1 =>
      rw [e] at w
      exact fun O' G' σ' H' g R' => ⟨M, O', G', r1, m1, R', w.grow g⟩
    | rt d m1 =>
      rw [e] at w
      exact w
    | ex _ _ _ =>
      rw [e] at w
      exact w
    | bad =>
      rw [e] at w
      exact w⟩
theorem z_false {s : Stmt} {f : List Slot → Mu → SRes} (h : ∀ r m, (∃ c a m', f r m = .ex c a m') ∨ f r m = .bad) : zS X s f := ⟨fun pins s σ H D I ⟨M, O, G, r, m, R, w⟩ => by
  rcases h r m with ⟨_, _, _, e⟩ | e
  · rw [e] at w
    exact False.elim w
  · rw [e] at w
    exact False.elim w⟩
theorem z_cond {A B : List Stmt} {f1 f2 : List Slot → Mu → SRes} (hc : sT X c fa) (h1 : zSs X A f1) (h2 : zSs X B f2) : zS X (.If c A B pos) fun r m => (asB (fa r m)).st fun t m => if t then f1 r m else f2 r m :=
  ps_imp (ps_if hc h1 h2) fun D σ H h => (tS1 (P := rB) (fa := fun r m => asB (fa r m)) (k := fun r t m => if t then f1 r m else f2 r m) h).imp fun t H1 ⟨M, O, G, r, m, x, R, e, w⟩ => by
    cases e
    cases t with
    | true => exact tS.again R w
    | false => exact tS.again R w
theorem z_ret (ha : sE X a fa) : zS X (.Return (some a) pos) fun r m => (fa r m).st fun d m => .rt d m :=
  ps_imp (ps_ret ha) fun D σ H h => (tS1 (P := Rp X.K) h).imp fun v H1 ⟨M, O, G, r, m, x, R, p, w⟩ => w v r σ O G H1 .refl R p
theorem z_retN : zS X (.Return none pos) fun r m => .rt .non m :=
  ps_imp ps_retN fun D σ H ⟨M, O, G, r, m, R, w⟩ => w _ r σ O G H .refl R .non
theorem z_retr {es : List Expr} {p2 : Pos} {fs : List Slot → Mu → Res (List D)} (h : sA X es fs) (hl : ∀ r m ds m', fs r m = .ok ds m' → ds.length ≤ 100) : zS X (.Return (some (.List es p2)) pos) fun r m => (fs r m).st fun ds m => .rt (.ref m.length) (m ++ [ds]) :=
  ps_imp (ps_ret (pe_lst h)) fun D σ H ⟨M, O, G, r, m, R, w⟩ => ⟨M, O, G, r, m, R, by
    dsimp only at w
    cases e1 : fs r m with
    | ex _ _ _ =>
      rw [e1] at w
      exact w
    | bad =>
      rw [e1] at w
      exact w
    | ok ds m1 =>
      rw [e1] at w
      intro vs H1 G1 g1 R1 p1
      refine ⟨by rw [← p1.length]; exact size100 (hl _ _ _ _ e1), fun q hq => ?_⟩
      have R2 := R1.forbid (xs := vs) hq
      have hM : ¬ M q := fun z => R1.dom q z hq
      have p2 := Rps.forbid (xs := vs) R1 hq p1
      have R3 := R2.newSt hM upd_same p2
      refine w (.ref q) r σ O (G1 ++ [q]) _ (g1.s.trans ⟨fun b o eb nb kb => ?_, fun n b hb => ?_⟩) R3 (.ref ?_)
      · have hne : b ≠ q := ne_of_none eb hq
        refine ⟨by rw [upd_ne hne]; exact eb, fun z => ?_, kb⟩
        rcases List.mem_append.mp z with z | z
        · exact nb z
        · exact hne (by simpa using z)
      · rw [List.getElem?_append_left (List.getElem?_eq_some_iff.mp hb).1]
        exact hb
      · rw [List.getElem?_append_right (by rw [R1.stl]; exact Nat.le_refl _), R1.stl, Nat.sub_self]
        rfl⟩
theorem z_drop (ha : sE X a fa) (hs : swapsWith a none pos.line X.env = pure false) : zS X (.Expr a pos) fun r m => (fa r m).st fun _ m => .nx r m :=
  ps_imp (ps_expr ha hs) fun D σ H h => (tS1 (P := Rp X.K) h).imp fun v H1 ⟨M, O, G, r, m, x, R, p, w⟩ => w O G σ H1 .refl R
/-- name = value -/
theorem z_set {i : Nat} {s : Stmt} (h : PS X s (tAsg (tG X.K (Rp X.K) fa) (gName i))) : zS X s fun r m => (fa r m).st fun d m => .nx (r.set i (.val d)) m :=
  ps_imp h fun D σ H h => (tS1 (P := Rp X.K) h).imp fun v H1 ⟨M, O, G, r, m, x, R, p, w⟩ => w O G _ H1 .refl (R.set p)
/-- name = a new list -/
theorem z_seto {i : Nat} {s : Stmt} (h : PS X s (tAsg (tN X.K fa) (gName i))) : zS X s fun r m => (fa r m).st fun d m => match d with | .lst ds => .nx (r.set i (.own ds)) m | _ => .bad :=
  ps_imp h fun D σ H ⟨M, O, G, r, m, R, w⟩ => ⟨M, O, G, r, m, R, by
    dsimp only at w
    cases e1 : fa r m with
    | ex _ _ _ =>
      rw [e1] at w
      exact w
    | bad =>
      rw [e1] at w
      exact w
    | ok d m1 =>
      rw [e1] at w
      cases d <;> first | exact False.elim w | skip
      intro q xs H' G' hq g hM R' hp px
      exact w _ G' _ H' (g.own hq) (R'.newOwn hM hp px)⟩
theorem GrowS.mut {O : Nat → Option Addr} {G : List Addr} {H : Hp} {i : Nat} {q : Addr} {h : HO} (hO : O i = some q) : GrowS O G H O G (upd H q h) :=
  ⟨fun b o eb nb kb => ⟨by rw [upd_ne fun z => kb i (by rw [z]; exact hO)]; exact eb, nb, kb⟩, fun _ _ h => h⟩
theorem GrowS.mutG {O : Nat → Option Addr} {G : List Addr} {H : Hp} {q : Addr} {h : HO} (hO : q ∈ G) : GrowS O G H O G (upd H q h) :=
  ⟨fun b o eb nb kb => ⟨by rw [upd_ne fun z => nb (by rw [z]; exact hO)]; exact eb, nb, kb⟩, fun _ _ h => h⟩
/-- an own list's slot, through a value's evaluation -/
theorem own_slot {r : List Slot} {i : Nat} {x : Res D} {K : PySem.W.Frag} {M : Addr → Prop} {O : Nat → Option Addr} {G : List Addr} {H : Hp} {D0 : Ends} {f : List D → D → Mu → SRes}
    (w : WantS K M O G H (x.st fun d m => match r[i]? with | some (.own ds) => f ds d m | _ => .bad) D0) : (∃ ds, r[i]? = some (.own ds)) := by
  cases x with
  | ex _ _ _ => exact False.elim w
  | bad => exact False.elim w
  | ok d m =>
    cases e : r[i]? with
    | none =>
      have w : WantS K M O G H (match r[i]? with | some (.own ds) => f ds d m | _ => .bad) D0 := w
      rw [e] at w
      exact False.elim w
    | some sl =>
      have w : WantS K M O G H (match r[i]? with | some (.own ds) => f ds d m | _ => .bad) D0 := w
      rw [e] at w
      cases sl with
      | own ds => exact ⟨ds, rfl⟩
      | un => exact False.elim w
      | val _ => exact False.elim w
/-- name.append(value), an own list -/
theorem z_app {i : Nat} {o : Expr} {ap p2 : Pos} (ho : PE X o (tVar i)) (ha : sE X a fa) (hbase : attributeBase o "append" X.env (eval o X.env) = eval o X.env) (hline : (ap.endLine == p.line) = true) (hs : starEach [a] X.env = (false, eval a X.env) :: starEach [] X.env) :
    zS X (.Expr (.Call (.Attribute o "append" ap) [a] [] p) p2) fun r m => (fa r m).st fun d m => match r[i]? with
    | some (.own ds) => if fit (ds.length + 1) then .nx (r.set i (.own (ds ++ [d]))) m else .bad
    | _ => .bad := by
  refine ps_imp (ps_expr (pe_bm PySem.F.plainAttrs_list PySem.F.slot_list_append PySem.F.type_list_append mt_append ho (pa_cons ha pa_nil hs) hbase (by rw [hs]; rfl) hline hs rfl) rfl) fun D σ H ⟨M, O, G, r, m, R, w⟩ => ?_
  dsimp only at w
  obtain ⟨ds, hr⟩ := own_slot (f := fun ds d m => if fit (ds.length + 1) then .nx (r.set i (.own (ds ++ [d]))) m else .bad) w
  obtain ⟨q, xs, hq1, hq2, hq3, hq4⟩ := R.own i ds hr
  refine ⟨.ref q, hq2, .inl ⟨rfl, xs, SqL.of hq3⟩, M, O, G, r, m, R, (WantS.st (P := Rp X.K) w).mono fun v H1 ⟨d, m1, G1, g1, R1, pv, w1⟩ => ?_⟩
  rw [hr] at w1
  dsimp only at w1
  split at w1
  · rename_i hf
    have hx := (g1.keep q _ hq3 (R.ownH i q hq1).2.2).1
    have hx4 := R.rps g1 hq4
    refine ⟨q, xs, v, rfl, rfl, hx, ?_, ?_⟩
    · have := fit_le hf
      rw [hq4.length] at this
      omega
    · exact w1 O G1 σ _ (GrowS.mut hq1) (R1.mutOwn hr hq1 hx (hx4.append (.cons pv .nil)))
  · exact False.elim w1
/-- name.extend(value), an own list -/
theorem z_ext {i : Nat} {o : Expr} {ap p2 : Pos} (ho : PE X o (tVar i)) (ha : sX X a fa) (hbase : attributeBase o "extend" X.env (eval o X.env) = eval o X.env) (hline : (ap.endLine == p.line) = true) (hs : starEach [a] X.env = (false, eval a X.env) :: starEach [] X.env) :
    zS X (.Expr (.Call (.Attribute o "extend" ap) [a] [] p) p2) fun r m => (fa r m).st fun d m => match r[i]?, d with
    | some (.own ds), .lst xs => if fit (ds.length + xs.length) then .nx (r.set i (.own (ds ++ xs))) m else .bad
    | _, _ => .bad := by
  refine ps_imp (ps_expr (pe_bm PySem.F.plainAttrs_list PySem.F.slot_list_extend PySem.F.type_list_extend mt_extend ho (pa_cons ha pa_nil hs) hbase (by rw [hs]; rfl) hline hs rfl) rfl) fun D σ H ⟨M, O, G, r, m, R, w⟩ => ?_
  dsimp only at w
  obtain ⟨ds, hr⟩ : ∃ ds, r[i]? = some (.own ds) := by
    cases e1 : fa r m with
    | ex _ _ _ =>
      rw [e1] at w
      exact False.elim w
    | bad =>
      rw [e1] at w
      exact False.elim w
    | ok d m1 =>
      rw [e1] at w
      cases e : r[i]? with
      | none =>
        dsimp only [Res.st] at w
        rw [e] at w
        exact False.elim w
      | some sl =>
        dsimp only [Res.st] at w
        rw [e] at w
        cases sl with
        | own ds => exact ⟨ds, rfl⟩
        | un => exact False.elim w
        | val _ => exact False.elim w
  obtain ⟨q, xs, hq1, hq2, hq3, hq4⟩ := R.own i ds hr
  refine ⟨.ref q, hq2, .inl ⟨rfl, xs, SqL.of hq3⟩, M, O, G, r, m, R, (WantS.st (P := Rw X.K) w).mono fun v H1 ⟨d, m1, G1, g1, R1, pv, w1⟩ => ?_⟩
  rw [hr] at w1
  cases d <;> first | exact False.elim w1 | skip
  rename_i zs
  dsimp only at w1
  split at w1
  · rename_i hf
    have hx := (g1.keep q _ hq3 (R.ownH i q hq1).2.2).1
    have hx4 := R.rps g1 hq4
    obtain ⟨b, ys, rfl, h1, h2⟩ := pv.lst
    refine ⟨q, b, xs, ys, rfl, rfl, hx, h1, ?_, ?_⟩
    · have := fit_le hf
      rw [hq4.length, h2.length] at this
      exact this
    · exact w1 O G1 σ _ (GrowS.mut hq1) (R1.mutOwn hr hq1 hx (hx4.append h2))
  · exact False.elim w1
/-- name[index] = value, an own list -/
theorem z_seti {i : Nat} {o ie : Expr} {p2 p3 : Pos} {fi : List Slot → Mu → Res D} (ho : PE X o (tVar i)) (hi : sE X ie fi) (hnl : ∀ l u t q, ie ≠ .Slice l u t q) (ha : sE X a fa) (hw : swappedStores [.Subscript o ie p3] a X.env = pure none) :
    zS X (.Assign [.Subscript o ie p3] a p2) fun r m => (fa r m).st fun d m => (fi r m).st fun k m => match r[i]?, k with
    | some (.own ds), .int k => match ixN ds.length k with | some j => .nx (r.set i (.own (ds.set j d))) m | none => .bad
    | _, _ => .bad := by
  have hasg : ∀ v, assign (.Subscript o ie p3) X.env v = (do
      let ov ← holding [v] (eval o X.env)
      let iv ← holding [v, ov] (eval ie X.env)
      standAt p3
      holding [v, ov, iv] (setItem ov iv v)
      release [v, ov, iv] []) := by
    intro v
    cases ie <;> first | rfl | exact absurd rfl (hnl _ _ _ _)
  have hsw : swapsWithSole [.Subscript o ie p3] a p2.line X.env = pure false := by
    unfold swapsWithSole swapsWith
    cases a <;> rfl
  refine ps_imp (ps_asg ha (pg_sub ho hi set_list hasg) hsw hw rfl) fun D σ H h => ?_
  refine (tS1 (P := Rp X.K) h).imp fun v H1 ⟨M, O, G, r, m, d, R, pv, w⟩ => ?_
  obtain ⟨ds, hr⟩ : ∃ ds, r[i]? = some (.own ds) := by
    cases e1 : fi r m with
    | ex _ _ _ =>
      rw [e1] at w
      exact False.elim w
    | bad =>
      rw [e1] at w
      exact False.elim w
    | ok d m1 =>
      rw [e1] at w
      cases e : r[i]? with
      | none =>
        dsimp only [Res.st] at w
        rw [e] at w
        exact False.elim w
      | some sl =>
        dsimp only [Res.st] at w
        rw [e] at w
        cases sl with
        | own ds => exact ⟨ds, rfl⟩
        | un => exact False.elim w
        | val _ => exact False.elim w
  obtain ⟨q, xs, hq1, hq2, hq3, hq4⟩ := R.own i ds hr
  refine ⟨.ref q, hq2, M, O, G, r, m, R, (WantS.st (P := Rp X.K) w).mono fun kv H2 ⟨kd, m1, G1, g1, R1, pk, w1⟩ => ?_⟩
  rw [hr] at w1
  cases kd <;> first | exact False.elim w1 | skip
  rename_i k
  cases pk
  dsimp only at w1
  cases ej : ixN ds.length k with
  | none =>
    rw [ej] at w1
    exact False.elim w1
  | some j =>
    rw [ej] at w1
    have hx := (g1.keep q _ hq3 (R.ownH i q hq1).2.2).1
    exact ⟨q, xs, k, j, rfl, rfl, hx, by rw [← hq4.length]; exact ej, w1 O G1 σ _ (GrowS.mut hq1) (R1.mutOwn hr hq1 hx ((R.rps g1 hq4).set (R.rp g1 pv) j))⟩
theorem Rps.erase {K : PySem.W.Frag} {B : Addr → Prop} {G : List Addr} {H : Hp} : ∀ {ds : List D} {vs : List V} (i : Nat), Rps K B G H ds vs → Rps K B G H (ds.eraseIdx i) (vs.eraseIdx i)
  | _, _, _, .nil => .nil
  | _, _, 0, .cons _ t => t
  | _, _, i + 1, .cons q t => .cons q (Rps.erase i t)
/-- xs.append(ys.pop(index)), own lists -/
theorem z_popa {i j : Nat} {o o2 : Expr} {ap p2 ap2 p4 : Pos} (hij : i ≠ j) (ho : PE X o (tVar i)) (ho2 : PE X o2 (tVar j)) (ha : sE X a fa) (hbase : attributeBase o "append" X.env (eval o X.env) = eval o X.env) (hline : (ap.endLine == p.line) = true)
    (hbase2 : attributeBase o2 "pop" X.env (eval o2 X.env) = eval o2 X.env) (hline2 : (ap2.endLine == p4.line) = true) (hs : starEach [a] X.env = (false, eval a X.env) :: starEach [] X.env) :
    zS X (.Expr (.Call (.Attribute o "append" ap) [.Call (.Attribute o2 "pop" ap2) [a] [] p4] [] p) p2) fun r m => (fa r m).st fun k m => match r[i]?, r[j]?, k with
    | some (.own ds), some (.own es), .int k => match ixN es.length k, inR k && fit (ds.length + 1) with
      | some t, true => (match es[t]? with
        | some d => .nx ((r.set j (.own (es.eraseIdx t))).set i (.own (ds ++ [d]))) m
        | none => .bad)
      | _, _ => .bad
    | _, _, _ => .bad := by
  refine ps_imp (ps_expr (pe_bm PySem.F.plainAttrs_list PySem.F.slot_list_append PySem.F.type_list_append mt_append ho (pa_cons (pe_bm PySem.F.plainAttrs_list PySem.F.slot_list_pop PySem.F.type_list_pop mt_popAt ho2 (pa_cons ha pa_nil hs) hbase2 (by rw [hs]; rfl) hline2 hs rfl) pa_nil rfl) hbase rfl hline rfl rfl) rfl) fun D σ H ⟨M, O, G, r, m, R, w⟩ => ?_
  dsimp only at w
  obtain ⟨ds, es, hr, hr2⟩ : ∃ ds es, r[i]? = some (.own ds) ∧ r[j]? = some (.own es) := by
    cases e1 : fa r m with
    | ex _ _ _ =>
      rw [e1] at w
      exact False.elim w
    | bad =>
      rw [e1] at w
      exact False.elim w
    | ok d m1 =>
      rw [e1] at w
      dsimp only [Res.st] at w
      cases e : r[i]? with
      | none =>
        rw [e] at w
        exact False.elim w
      | some sl =>
        rw [e] at w
        cases sl with
        | un => exact False.elim w
        | val _ => exact False.elim w
        | own ds =>
          cases e' : r[j]? with
          | none =>
            rw [e'] at w
            exact False.elim w
          | some sl =>
            rw [e'] at w
            cases sl with
            | un => exact False.elim w
            | val _ => exact False.elim w
            | own es => exact ⟨ds, es, rfl, rfl⟩
  obtain ⟨q, xs, hq1, hq2, hq3, hq4⟩ := R.own i ds hr
  obtain ⟨t, ys, ht1, ht2, ht3, ht4⟩ := R.own j es hr2
  refine ⟨.ref q, hq2, .inl ⟨rfl, xs, SqL.of hq3⟩, .ref t, ht2, .inl ⟨rfl, ys, SqL.of ht3⟩, M, O, G, r, m, R, (WantS.st (P := Rp X.K) w).mono fun v H1 ⟨d, m1, G1, g1, R1, pv, w1⟩ => ?_⟩
  rw [hr, hr2] at w1
  cases d <;> first | exact False.elim w1 | skip
  rename_i k
  cases pv
  dsimp only at w1
  cases ej : ixN es.length k with
  | none =>
    rw [ej] at w1
    exact False.elim w1
  | some u =>
    rw [ej] at w1

    cases hf : inR k && fit (ds.length + 1) with
    | false =>
      rw [hf] at w1
      exact False.elim w1
    | true =>
      rw [hf] at w1
      dsimp only at w1
      cases eu : es[u]? with
      | none =>
        rw [eu] at w1
        exact False.elim w1
      | some d =>
        rw [eu] at w1
        dsimp only at w1
        rw [Bool.and_eq_true] at hf
        have hk := of_decide_eq_true hf.1
        have hx := (g1.keep t _ ht3 (R.ownH j t ht1).2.2).1
        have hx4 := R.rps g1 ht4
        obtain ⟨y, hy1, hy2⟩ := hx4.get eu
        have sq := ixN_seq ej
        have R2 := R1.mutOwn hr2 ht1 hx (hx4.erase u)
        have hb : Bad M O G1 t := .inr (.inr ⟨j, ht1⟩)
        refine ⟨t, ys, k, u, y, rfl, rfl, hx, by omega, by omega, by rw [← ht4.length]; exact sq.1, hy1, ?_⟩
        have hr' : (r.set j (.own (es.eraseIdx u)))[i]? = some (.own ds) := by
          rw [List.getElem?_set_ne (Ne.symm hij)]
          exact hr
        obtain ⟨q', xs', k1, k2, k3, k4⟩ := R2.own i ds hr'
        rw [hq1] at k1
        cases k1
        refine ⟨q, xs', y, rfl, rfl, k3, ?_, ?_⟩
        · have := fit_le hf.2
          rw [k4.length] at this
          omega
        · exact w1 O G1 σ _ ((GrowS.mut ht1).trans (GrowS.mut hq1)) (R2.mutOwn hr' hq1 k3 (k4.append (.cons (hy2.off hb hx) .nil)))
/-- a slot is forgotten -/
theorem Rep.setUn {K : PySem.W.Frag} {M : Addr → Prop} {O : Nat → Option Addr} {G : List Addr} {σ : L2.St} {H : Hp} {r : List Slot} {m : Mu} (R : Rep K M O G σ H r m) {i : Nat} {v : Option V} : Rep K M O G (σ.set i v) H (r.set i .un) m where
  dom := R.dom
  len := by rw [List.length_set, List.length_set]; exact R.len
  val := fun j e q => by
    by_cases hj : i = j
    · subst hj
      have hi : i < r.length := by
        have := (List.getElem?_eq_some_iff.mp q).1
        rwa [List.length_set] at this
      rw [List.getElem?_set_self hi] at q
      cases q
    · rw [List.getElem?_set_ne hj] at q
      rw [List.getElem?_set_ne hj]
      exact R.val j e q
  own := fun j e q => by
    by_cases hj : i = j
    · subst hj
      have hi : i < r.length := by
        have := (List.getElem?_eq_some_iff.mp q).1
        rwa [List.length_set] at this
      rw [List.getElem?_set_self hi] at q
      cases q
    · rw [List.getElem?_set_ne hj] at q
      rw [List.getElem?_set_ne hj]
      exact R.own j e q
  ownU := R.ownU
  ownH := R.ownH
  st := R.st
  stl := R.stl
  stU := R.stU
  stM := R.stM
/-- r[c] = value, a list of the store -/
theorem z_setr {i c : Nat} {o ie : Expr} {p2 p3 : Pos} (ho : PE X o (tVar i)) (hi : PE X ie (tC (.int c))) (hnl : ∀ l u t q, ie ≠ .Slice l u t q) (ha : sE X a fa) (hw : swappedStores [.Subscript o ie p3] a X.env = pure none) :
    zS X (.Assign [.Subscript o ie p3] a p2) fun r m => (fa r m).st fun d m => match r[i]? with
    | some (.val (.ref n)) => match m[n]? with
      | some xs => if c < xs.length then .nx r (m.set n (xs.set c d)) else .bad
      | none => .bad
    | _ => .bad := by
  have hasg : ∀ v, assign (.Subscript o ie p3) X.env v = (do
      let ov ← holding [v] (eval o X.env)
      let iv ← holding [v, ov] (eval ie X.env)
      standAt p3
      holding [v, ov, iv] (setItem ov iv v)
      release [v, ov, iv] []) := by
    intro v
    cases ie <;> first | rfl | exact absurd rfl (hnl _ _ _ _)
  have hsw : swapsWithSole [.Subscript o ie p3] a p2.line X.env = pure false := by
    unfold swapsWithSole swapsWith
    cases a <;> rfl
  refine ps_imp (ps_asg ha (pg_sub ho hi set_list hasg) hsw hw rfl) fun D σ H h => ?_
  refine (tS1 (P := Rp X.K) h).imp fun v H1 ⟨M, O, G, r, m, d, R, pv, w⟩ => ?_
  cases e : r[i]? with
  | none =>
    rw [e] at w
    exact False.elim w
  | some sl =>
    rw [e] at w
    cases sl with
    | un => exact False.elim w
    | own _ => exact False.elim w
    | val d2 =>
      cases d2 <;> first | exact False.elim w | skip
      rename_i n
      obtain ⟨v2, h1, h2⟩ := R.val i _ e
      cases h2 with
      | ref hg =>
        rename_i q
        cases em : m[n]? with
        | none =>
          dsimp only at w
          rw [em] at w
          exact False.elim w
        | some xs =>
          dsimp only at w
          rw [em] at w
          dsimp only at w
          split at w
          · rename_i hc
            obtain ⟨q', ys, g1, g2, g3⟩ := R.st n xs em
            rw [hg] at g1
            cases g1
            refine ⟨.ref q, h1, q, ys, c, c, rfl, rfl, g2, ?_, ?_⟩
            · unfold ixN
              rw [if_pos (by omega), if_pos (by rw [← g3.length]; omega)]
              rfl
            · exact w O G σ _ (GrowS.mutG (List.mem_of_getElem? hg)) (R.setSt hg g2 (g3.set pv c))
          · exact False.elim w
/-- r[c], name = a pair -/
theorem z_setrp {i c j : Nat} {o ie : Expr} {y : Str} {p2 p3 py pt : Pos} {kt : Nat} (hc : X.calm = true) (hN : X.N.Nodup) (ho : PE X o (tVar i)) (hi : PE X ie (tC (.int c))) (hnl : ∀ l u t q, ie ≠ .Slice l u t q) (hy : NmOk X j y) (ha : sE X a fa) (hw : swappedStores [.Tuple [.Subscript o ie p3, .Name y py] kt pt] a X.env = pure none) :
    zS X (.Assign [.Tuple [.Subscript o ie p3, .Name y py] kt pt] a p2) fun r m => (fa r m).st fun d m => match r[i]?, d with
    | some (.val (.ref n)), .tup [x, y] => match m[n]? with
      | some xs => if c < xs.length then .nx (r.set j (.val y)) (m.set n (xs.set c x)) else .bad
      | none => .bad
    | _, _ => .bad := by
  have hasg : ∀ v, assign (.Subscript o ie p3) X.env v = (do
      let ov ← holding [v] (eval o X.env)
      let iv ← holding [v, ov] (eval ie X.env)
      standAt p3
      holding [v, ov, iv] (setItem ov iv v)
      release [v, ov, iv] []) := by
    intro v
    cases ie <;> first | rfl | exact absurd rfl (hnl _ _ _ _)
  have hsw : swapsWithSole [.Tuple [.Subscript o ie p3, .Name y py] kt pt] a p2.line X.env = pure false := by
    unfold swapsWithSole swapsWith
    cases a <;> rfl
  refine ps_imp (ps_asg ha (pg_tup (n := 2) hc (pgs_cons (pg_sub ho hi set_list hasg) (pgs_cons (pg_name hN hy.1 hy.2.1 hy.2.2) pgs_nil))) hsw hw rfl) fun D σ H h => ?_
  refine (tS1 (P := Rp X.K) h).imp fun v H1 ⟨M, O, G, r, m, d, R, pv, w⟩ => ?_
  cases e : r[i]? with
  | none =>
    rw [e] at w
    cases d <;> exact False.elim w
  | some sl =>
    rw [e] at w
    cases sl with
    | un => cases d <;> exact False.elim w
    | own _ => cases d <;> exact False.elim w
    | val d2 =>
      cases d2 <;> first | (cases d <;> exact False.elim w) | skip
      rename_i n
      cases d <;> first | exact False.elim w | skip
      rename_i ds
      rcases ds with _ | ⟨x1, _ | ⟨x2, _ | ⟨x3, ds⟩⟩⟩
      · exact False.elim w
      · exact False.elim w
      · obtain ⟨v2, h1, h2⟩ := R.val i _ e
        cases h2 with
        | ref hg =>
          rename_i q
          cases em : m[n]? with
          | none =>
            dsimp only at w
            rw [em] at w
            exact False.elim w
          | some xs =>
            dsimp only at w
            rw [em] at w
            dsimp only at w
            split at w
            · rename_i hc
              obtain ⟨q', ys, g1, g2, g3⟩ := R.st n xs em
              rw [hg] at g1
              cases g1
              cases pv with
              | @tup ta txs _ pv1 pv2 =>
                cases pv2 with
                | cons pa1 pv3 =>
                  cases pv3 with
                  | cons pa2 pv4 =>
                    cases pv4
                    refine ⟨ta, _, rfl, pv1, rfl, _, _, rfl, ⟨.ref q, h1, q, ys, c, c, rfl, rfl, g2, ?_, _, _, rfl, rfl, ?_⟩⟩
                    · unfold ixN
                      rw [if_pos (by omega), if_pos (by rw [← g3.length]; omega)]
                      rfl
                    · have hb : Bad M O G q := .inr (.inl (List.mem_of_getElem? hg))
                      exact w O G _ _ (GrowS.mutG (List.mem_of_getElem? hg)) ((R.setSt hg g2 (g3.set pa1 c)).set (pa2.off hb g2))
            · exact False.elim w
      · exact False.elim w
/-- name, name = value, value: plain names of a def -/
theorem z_par {i j : Nat} {x y : Str} {px py pt : Pos} {kt k2 : Nat} {pt2 : Pos} {fs : List Slot → Mu → Res (List D)} (hc : X.calm = true) (hN : X.N.Nodup) (hi : X.N[i]? = some x) (hj : X.N[j]? = some y) (hij : i ≠ j) (hx : X.env.scope.names.lookup x = some .local) (hy : X.env.scope.names.lookup y = some .local)
    (ha : sA X [a, b] fs) (hw : swappedStores [.Tuple [.Name x px, .Name y py] kt pt] (.Tuple [a, b] k2 pt2) X.env = pure (some [x, y])) :
    zS X (.Assign [.Tuple [.Name x px, .Name y py] kt pt] (.Tuple [a, b] k2 pt2) pos) fun r m => (fs r m).st fun ds m => if [i, j].length = ds.length then .nx (setAll r [i, j] ds) m else .bad :=
  ps_imp (ps_par hc hN hi hj hij hx hy ha hw rfl) fun D σ H h => (tS1 (P := Rps X.K) h).imp fun vs H1 ⟨M, O, G, r, m, ds, R, p, w⟩ => by
    split at w
    · rename_i hl
      rcases ds with _ | ⟨d1, _ | ⟨d2, _ | ⟨_, _⟩⟩⟩ <;> first | (cases hl; done) | skip
      cases p with
      | cons p1 p =>
        cases p with
        | cons p2 p =>
          cases p
          exact ⟨_, _, rfl, w O G _ _ .refl ((R.set p1).set p2)⟩
    · exact False.elim w
/-- three names -/
theorem z_par3 {i j l : Nat} {x y z : Str} {px py pz pt : Pos} {kt k2 : Nat} {pt2 : Pos} {fs : List Slot → Mu → Res (List D)} (hc : X.calm = true) (hN : X.N.Nodup) (hi : X.N[i]? = some x) (hj : X.N[j]? = some y) (hl : X.N[l]? = some z) (hij : i ≠ j) (hil : i ≠ l) (hjl : j ≠ l) (hx : X.env.scope.names.lookup x = some .local) (hy : X.env.scope.names.lookup y = some .local) (hz : X.env.scope.names.lookup z = some .local)
    (ha : sA X [a, b, c] fs) (hw : swappedStores [.Tuple [.Name x px, .Name y py, .Name z pz] kt pt] (.Tuple [a, b, c] k2 pt2) X.env = pure (some [x, y, z])) :
    zS X (.Assign [.Tuple [.Name x px, .Name y py, .Name z pz] kt pt] (.Tuple [a, b, c] k2 pt2) pos) fun r m => (fs r m).st fun ds m => if [i, j, l].length = ds.length then .nx (setAll r [i, j, l] ds) m else .bad :=
  ps_imp (ps_par3 hc hN hi hj hl hij hil hjl hx hy hz ha hw rfl) fun D σ H h => (tS1 (P := Rps X.K) h).imp fun vs H1 ⟨M, O, G, r, m, ds, R, p, w⟩ => by
    split at w
    · rename_i hl
      rcases ds with _ | ⟨d1, _ | ⟨d2, _ | ⟨d3, _ | ⟨_, _⟩⟩⟩⟩ <;> first | (cases hl; done) | skip
      cases p with
      | cons p1 p =>
        cases p with
        | cons p2 p =>
          cases p with
          | cons p3 p =>
            cases p
            exact ⟨_, _, _, rfl, w O G _ _ .refl (((R.set p1).set p2).set p3)⟩
    · exact False.elim w
/-- .. the first a new list that nobody else holds -/
theorem z_parO {i j : Nat} {x y : Str} {px py pt : Pos} {kt k2 : Nat} {pt2 : Pos} {fb : List Slot → Mu → Res D} (hc : X.calm = true) (hN : X.N.Nodup) (hi : X.N[i]? = some x) (hj : X.N[j]? = some y) (hij : i ≠ j) (hx : X.env.scope.names.lookup x = some .local) (hy : X.env.scope.names.lookup y = some .local)
    (ha : PE X a (tN X.K fa)) (hb : sE X b fb) (hs : starEach [a, b] X.env = (false, eval a X.env) :: starEach [b] X.env) (hs2 : starEach [b] X.env = (false, eval b X.env) :: starEach [] X.env) (hw : swappedStores [.Tuple [.Name x px, .Name y py] kt pt] (.Tuple [a, b] k2 pt2) X.env = pure (some [x, y])) :
    zS X (.Assign [.Tuple [.Name x px, .Name y py] kt pt] (.Tuple [a, b] k2 pt2) pos) fun r m => ((fa r m).bind fun d1 m => (fb r m).bind fun d2 m => .ok [d1, d2] m).st fun ds m => match ds with
      | [.lst l, d2] => .nx ((r.set i (.own l)).set j (.val d2)) m
      | _ => .bad :=
  ps_imp (ps_par hc hN hi hj hij hx hy (pa_cons ha (pa_cons hb pa_nil hs2) hs) hw rfl) fun D σ H ⟨M, O, G, r, m, R, w⟩ => ⟨M, O, G, r, m, R, by
    dsimp only at w
    cases e1 : fa r m with
    | ex _ _ _ =>
      rw [e1] at w
      exact w
    | bad =>
      rw [e1] at w
      exact w
    | ok d1 m1 =>
      rw [e1] at w
      cases e2 : fb r m1 with
      | ex _ _ _ =>
        have w : WantS X.K M O G H (((fb r m1).bind fun d2 m => (Res.ok [d1, d2] m : Res (List Mi.D))).st fun ds m => match ds with
          | [.lst l, d2] => .nx ((r.set i (.own l)).set j (.val d2)) m
          | _ => .bad) D := w
        rw [e2] at w
        exact False.elim w
      | bad =>
        have w : WantS X.K M O G H (((fb r m1).bind fun d2 m => (Res.ok [d1, d2] m : Res (List Mi.D))).st fun ds m => match ds with
          | [.lst l, d2] => .nx ((r.set i (.own l)).set j (.val d2)) m
          | _ => .bad) D := w
        rw [e2] at w
        exact False.elim w
      | ok d2 m2 =>
        have w : WantS X.K M O G H (((fb r m1).bind fun d2 m => (Res.ok [d1, d2] m : Res (List Mi.D))).st fun ds m => match ds with
          | [.lst l, d2] => .nx ((r.set i (.own l)).set j (.val d2)) m
          | _ => .bad) D := w
        rw [e2] at w
        obtain ⟨l, rfl⟩ : ∃ l, d1 = .lst l := by
          cases d1 <;> first | exact ⟨_, rfl⟩ | exact False.elim w
        have w : WantS X.K M O G H (.nx ((r.set i (.own l)).set j (.val d2)) m2) D := w
        intro q xs H' G' hq g hM R' hp px
        refine ⟨Plus M q, O, G', r, m1, R', ?_⟩
        rw [e2]
        intro v H2 G2 g2 R2 p2
        refine ⟨_, _, rfl, ?_⟩
        have hp2 : H2 q = some (.lst xs) := (g2.keep q _ hp fun z => R'.stM q z (.inr rfl)).1
        have px2 := R'.rps g2 px
        have R3 := R2.newOwn (i := i) hM hp2 px2
        refine w _ G2 _ H2 ((g.trans g2).own hq) (R3.set (p2.mono fun a z => ?_))
        rcases z with z | z | ⟨k, z⟩
        · exact .inl (.inl z)
        · exact .inr (.inl z)
        · unfold ownAt at z
          split at z
          · cases z
            exact .inl (.inr rfl)
          · exact .inr (.inr ⟨k, z⟩)⟩
/-- what is new since is nobody's -/
theorem Rp.fresh {K : PySem.W.Frag} {M : Addr → Prop} {O : Nat → Option Addr} {G G' : List Addr} {σ : L2.St} {H H' : Hp} {r : List Slot} {m : Mu} (R : Rep K M O G σ H r m) (g : Grow G H G' H') {q : Addr} (hq : H q = none) {d : D} {v : V} (h : Rp K (Bad M O G) G H d v) : Rp K (Bad (Plus M q) O G') G' H' d v :=
  Rp.move (fun a xs n e => by
    obtain ⟨h1, h2⟩ := R.rd g n e
    refine ⟨fun z => ?_, h2⟩
    rcases z with (z | z) | z
    · exact h1 (.inl z)
    · rw [z, hq] at e
      cases e
    · exact h1 (.inr z)) (R.kn g) g.pre h
theorem Rps.fresh {K : PySem.W.Frag} {M : Addr → Prop} {O : Nat → Option Addr} {G G' : List Addr} {σ : L2.St} {H H' : Hp} {r : List Slot} {m : Mu} (R : Rep K M O G σ H r m) (g : Grow G H G' H') {q : Addr} (hq : H q = none) {d : List D} {v : List V} (h : Rps K (Bad M O G) G H d v) : Rps K (Bad (Plus M q) O G') G' H' d v :=
  Rps.move (fun a xs n e => by
    obtain ⟨h1, h2⟩ := R.rd g n e
    refine ⟨fun z => ?_, h2⟩
    rcases z with (z | z) | z
    · exact h1 (.inl z)
    · rw [z, hq] at e
      cases e
    · exact h1 (.inr z)) (R.kn g) g.pre h
theorem par_ok {x1 x2 : Mu → Res D} {m : Mu} {k : D → D → Mu → SRes} {K : PySem.W.Frag} {M : Addr → Prop} {O : Nat → Option Addr} {G : List Addr} {H : Hp} {D0 : Ends} (w : WantS K M O G H (((x1 m).bind fun d1 m => (x2 m).bind fun d2 m => (Res.ok [d1, d2] m : Res (List D))).st fun ds m => match ds with
      | [a, b] => k a b m
      | _ => .bad) D0) : ∃ d1 m1 d2 m2, x1 m = .ok d1 m1 ∧ x2 m1 = .ok d2 m2 ∧ WantS K M O G H (k d1 d2 m2) D0 := by
  cases e1 : x1 m with
  | ex _ _ _ =>
    rw [e1] at w
    exact False.elim w
  | bad =>
    rw [e1] at w
    exact False.elim w
  | ok d1 m1 =>
    rw [e1] at w
    dsimp only [Res.bind] at w
    cases e2 : x2 m1 with
    | ex _ _ _ =>
      rw [e2] at w
      exact False.elim w
    | bad =>
      rw [e2] at w
      exact False.elim w
    | ok d2 m2 =>
      rw [e2] at w
      exact ⟨d1, m1, d2, m2, rfl, e2, w⟩
/-- .. the second a new list -/
theorem z_parV {i j : Nat} {x y : Str} {px py pt : Pos} {kt k2 : Nat} {pt2 : Pos} {fb : List Slot → Mu → Res D} (hc : X.calm = true) (hN : X.N.Nodup) (hi : X.N[i]? = some x) (hj : X.N[j]? = some y) (hij : i ≠ j) (hx : X.env.scope.names.lookup x = some .local) (hy : X.env.scope.names.lookup y = some .local)
    (ha : sE X a fa) (hb : PE X b (tN X.K fb)) (hs : starEach [a, b] X.env = (false, eval a X.env) :: starEach [b] X.env) (hs2 : starEach [b] X.env = (false, eval b X.env) :: starEach [] X.env) (hw : swappedStores [.Tuple [.Name x px, .Name y py] kt pt] (.Tuple [a, b] k2 pt2) X.env = pure (some [x, y])) :
    zS X (.Assign [.Tuple [.Name x px, .Name y py] kt pt] (.Tuple [a, b] k2 pt2) pos) fun r m => ((fa r m).bind fun d1 m => (fb r m).bind fun d2 m => .ok [d1, d2] m).st fun ds m => match ds with
      | [d1, d2] => (match d2 with | .lst l => .nx ((r.set i (.val d1)).set j (.own l)) m | _ => .bad)
      | _ => .bad :=
  ps_imp (ps_par hc hN hi hj hij hx hy (pa_cons ha (pa_cons hb pa_nil hs2) hs) hw rfl) fun D σ H ⟨M, O, G, r, m, R, w⟩ => ⟨M, O, G, r, m, R, by
    dsimp only at w
    obtain ⟨d1, m1, d2, m2, e1, e2, w⟩ := par_ok (x1 := fa r) (x2 := fb r) (k := fun d1 d2 m => match d2 with | .lst l => .nx ((r.set i (.val d1)).set j (.own l)) m | _ => .bad) w
    obtain ⟨l, rfl⟩ : ∃ l, d2 = .lst l := by
      cases d2 <;> first | exact ⟨_, rfl⟩ | exact False.elim w
    rw [e1]
    intro v1 H1 G1 g1 R1 p1
    refine ⟨M, O, G1, r, m1, R1, ?_⟩
    rw [e2]
    intro q xs H2 G2 hq g2 hM R2 hp px
    exact ⟨_, _, rfl, w _ G2 _ H2 (g1.s.trans (g2.own hq)) ((R2.set (Rp.fresh R1 g2 hq p1)).newOwn hM hp px)⟩⟩
/-- .. both new lists -/
theorem z_parNN {i j : Nat} {x y : Str} {px py pt : Pos} {kt k2 : Nat} {pt2 : Pos} {fb : List Slot → Mu → Res D} (hc : X.calm = true) (hN : X.N.Nodup) (hi : X.N[i]? = some x) (hj : X.N[j]? = some y) (hij : i ≠ j) (hx : X.env.scope.names.lookup x = some .local) (hy : X.env.scope.names.lookup y = some .local)
    (ha : PE X a (tN X.K fa)) (hb : PE X b (tN X.K fb)) (hs : starEach [a, b] X.env = (false, eval a X.env) :: starEach [b] X.env) (hs2 : starEach [b] X.env = (false, eval b X.env) :: starEach [] X.env) (hw : swappedStores [.Tuple [.Name x px, .Name y py] kt pt] (.Tuple [a, b] k2 pt2) X.env = pure (some [x, y])) :
    zS X (.Assign [.Tuple [.Name x px, .Name y py] kt pt] (.Tuple [a, b] k2 pt2) pos) fun r m => ((fa r m).bind fun d1 m => (fb r m).bind fun d2 m => .ok [d1, d2] m).st fun ds m => match ds with
      | [d1, d2] => (match d1, d2 with | .lst k, .lst l => .nx ((r.set i (.own k)).set j (.own l)) m | _, _ => .bad)
      | _ => .bad :=
  ps_imp (ps_par hc hN hi hj hij hx hy (pa_cons ha (pa_cons hb pa_nil hs2) hs) hw rfl) fun D σ H ⟨M, O, G, r, m, R, w⟩ => ⟨M, O, G, r, m, R, by
    dsimp only at w
    obtain ⟨d1, m1, d2, m2, e1, e2, w⟩ := par_ok (x1 := fa r) (x2 := fb r) (k := fun d1 d2 m => match d1, d2 with | .lst k, .lst l => .nx ((r.set i (.own k)).set j (.own l)) m | _, _ => .bad) w
    obtain ⟨k, rfl⟩ : ∃ l, d1 = .lst l := by
      cases d1 <;> first | exact ⟨_, rfl⟩ | exact False.elim w
    obtain ⟨l, rfl⟩ : ∃ l, d2 = .lst l := by
      cases d2 <;> first | exact ⟨_, rfl⟩ | exact False.elim w
    rw [e1]
    intro q1 xs1 H1 G1 hq1 g1 hM1 R1 hp1 px1
    refine ⟨Plus M q1, O, G1, r, m1, R1, ?_⟩
    rw [e2]
    intro q2 xs2 H2 G2 hq2 g2 hM2 R2 hp2 px2
    have kp : H2 q1 = some (.lst xs1) := (g2.keep q1 _ hp1 fun z => R1.stM q1 z (.inr rfl)).1
    have R3 := R2.newOwn (i := j) hM2 hp2 px2
    have px1' : Rps X.K (Bad (Plus M q1) (ownAt O j q2) G2) G2 H2 k xs1 := (Rps.fresh R1 g2 hq2 px1).mono fun a z => by
      rcases z with (z | z) | z | ⟨n, z⟩
      · exact .inl (.inl (.inl z))
      · exact .inl (.inl (.inr z))
      · exact .inr (.inl z)
      · unfold ownAt at z
        split at z
        · cases z
          exact .inl (.inr rfl)
        · exact .inr (.inr ⟨n, z⟩)
    have R4 := R3.newOwn (i := i) hM1 kp px1'
    rw [List.set_comm (l := σ) _ _ (Ne.symm hij), List.set_comm (l := r) _ _ (Ne.symm hij)] at R4
    have hq2' : H q2 = none := by
      cases e : H q2 with
      | none => rfl
      | some o =>
        by_cases hg : q2 ∈ G
        · obtain ⟨n, hn⟩ := List.getElem?_of_mem hg
          exact absurd (List.mem_of_getElem? (g1.pre n q2 hn)) fun z => by
            obtain ⟨ys, e⟩ := R1.lst z
            rw [hq2] at e
            cases e
        · have := (g1.keep q2 _ e hg).1
          rw [hq2] at this
          cases this
    exact ⟨_, _, rfl, w _ G2 _ H2 ⟨fun b o eb nb kb => ⟨((g1.trans g2).keep b o eb nb).1, ((g1.trans g2).keep b o eb nb).2, fun n z => by
      unfold ownAt at z
      split at z
      · cases z
        rw [hq1] at eb
        cases eb
      · split at z
        · cases z
          rw [hq2'] at eb
          cases eb
        · exact kb n z⟩, (g1.trans g2).pre⟩ R4⟩⟩
/-- names = a tuple -/
theorem z_unp {is : List Nat} {ts : List Expr} {kt : Nat} {pt : Pos} (hc : X.calm = true) (hN : X.N.Nodup) (ht : TgL X is ts) (ha : sE X a fa) (hs : swapsWithSole [.Tuple ts kt pt] a pos.line X.env = pure false) (hw : swappedStores [.Tuple ts kt pt] a X.env = pure none) :
    zS X (.Assign [.Tuple ts kt pt] a pos) fun r m => (fa r m).st fun d m => match d with | .tup ds => if is.length = ds.length then .nx (setAll r is ds) m else .bad | _ => .bad :=
  ps_imp (ps_asg ha (pg_tup (n := is.length) hc (pgs_names hN ht) (tgL_len ht).1 (tgL_len ht).2) hs hw rfl) fun D σ H h => (tS1 (P := Rp X.K) h).imp fun v H1 ⟨M, O, G, r, m, d, R, p, w⟩ => by
    cases d <;> first | exact False.elim w | skip
    rename_i ds
    dsimp only at w
    split at w
    · rename_i hl
      cases p with
      | @tup ta txs _ p1 p2 =>
        have hl2 := p2.length
        exact ⟨ta, txs, rfl, p1, by omega, by omega, w O G _ _ .refl (R.setAll p2)⟩
    · exact False.elim w

/-! loops -/
theorem z_while {B : List Stmt} {fb : List Slot → Mu → SRes} (po : PassesOwn (model X.prog X.w) X.A X.env X.xe) (hc : sT X c fa) (hb : zSs X B fb) (n : Nat) : zS X (.While c B [] pos) fun r m => whileR (fun r m => asB (fa r m)) fb n r m :=
  ps_imp (ps_while po hc hb) fun D σ H h => by
    refine ⟨fun j σ' H' => tS X.K (fun r m => whileR (fun r m => asB (fa r m)) fb j r m) D σ' H', ⟨n, h⟩, fun j σ' H' hw => ?_⟩
    cases j with
    | zero =>
      obtain ⟨M, O, G, r, m, R, w⟩ := hw
      exact False.elim w
    | succ j =>
      refine (tS1 (P := rB) (fa := fun r m => asB (fa r m)) (k := fun r b m => if b then (match fb r m with | .nx r m => whileR (fun r m => asB (fa r m)) fb j r m | o => o) else .nx r m) (hw.eq fun r m => ?_)).imp fun t H1 ⟨M, O, G, r, m, x, R, e, w⟩ => ?_
      · show whileR _ _ (j + 1) r m = _
        rw [whileR]
        all_goals rfl
      · cases e
        cases t with
        | false => exact w O G σ' H1 .refl R
        | true =>
          refine ⟨fun σ2 H2 => tS X.K (fun r m => whileR (fun r m => asB (fa r m)) fb j r m) D σ2 H2, fun σ2 H2 h2 => ⟨j, Nat.lt_succ_self j, h2⟩, M, O, G, r, m, R, ?_⟩
          rw [if_pos rfl] at w
          cases e : fb r m with
          | nx r1 m1 =>
            rw [e] at w
            exact fun O' G' σ2 H2 g R' => ⟨M, O', G', r1, m1, R', w.grow g⟩
          | rt d m1 =>
            rw [e] at w
            exact w
          | ex _ _ _ =>
            rw [e] at w
            exact w
          | bad =>
            rw [e] at w
            exact w
theorem z_for {tg iter : Expr} {B : List Stmt} {t : Tgt} {ik : IK} {fi : List Slot → Mu → Res (List D)} {fb : List Slot → Mu → SRes} (po : PassesOwn (model X.prog X.w) X.A X.env X.xe) (hc : X.calm = true) (hN : X.N.Nodup) (hi : sI X tg iter (Rps X.K) fi ik) (ht : TgOk X t tg) (hb : zSs X B fb) (hs : ∀ x, foldedSetIterable iter X.env x = pure x) :
    zS X (.For tg iter B [] pos) fun r m => (fi r m).st fun ds m => match itemsD ik ds with
    | some xs => forR (fun x r m => match bindT t x r with | some r' => fb r' m | none => .bad) xs r m
    | none => .bad :=
  ps_imp (ps_for po hc hi (pg_tg hN hc ht) hb hs) fun D σ H ⟨M, O, G, r, m, R, w⟩ => ⟨M, O, G, r, m, R, by
    dsimp only at w
    cases e1 : fi r m with
    | ex _ _ _ =>
      rw [e1] at w
      exact False.elim w
    | bad =>
      rw [e1] at w
      exact False.elim w
    | ok ds m1 =>
      rw [e1] at w
      have w : WantS X.K M O G H (match itemsD ik ds with
        | some xs => forR (fun x r m => match bindT t x r with | some r' => fb r' m | none => .bad) xs r m1
        | none => .bad) D := w
      show ∃ xs, _
      cases e2 : itemsD ik ds with
      | none =>
        rw [e2] at w
        exact False.elim w
      | some xs =>
        rw [e2] at w
        dsimp only at w
        refine ⟨xs, rfl, fun J H1 G1 svs g1 R1 S1 F => ?_⟩
        generalize hF : (fun (x : Mi.D) (r : List Slot) (m : Mu) => match bindT t x r with | some r' => fb r' m | none => SRes.bad) = F' at w
        refine ⟨fun i k σ' H' => k = xs.length - i ∧ i ≤ xs.length ∧ ∃ O' G' r' m', Rep X.K M O' G' σ' H' r' m' ∧ Rps X.K (Bad M O' G') G' H' ds svs ∧ WantS X.K M O' G' H' (forR F' (xs.drop i) r' m') D, ⟨xs.length, by simp, Nat.zero_le _, O, G1, r, m1, R1, S1, (w.grow g1.s)⟩, ?_⟩
        rintro i k σ2 H2 ⟨rfl, hi2, O2, G2, r2, m2, R2, S2, w2⟩
        by_cases hlt : i < xs.length
        · obtain ⟨hgo, hyl⟩ := F.1 i xs[i] _ _ _ (Rws.of S2) (List.getElem?_eq_getElem hlt)
          refine .inr ⟨hgo, fun σ' H' => xs.length - (i + 1) = xs.length - (i + 1) ∧ i + 1 ≤ xs.length ∧ ∃ O' G' r' m', Rep X.K M O' G' σ' H' r' m' ∧ Rps X.K (Bad M O' G') G' H' ds svs ∧ WantS X.K M O' G' H' (forR F' (xs.drop (i + 1)) r' m') D, fun σ' H' h' => ⟨_, by omega, h'⟩, fun v H3 hy => ?_⟩
          obtain ⟨s3, p3⟩ := hyl v H3 hy
          have R3 := R2.same s3
          have S3 := S2.same s3
          have w3 := w2.grow (Grow.same s3).s
          rw [List.drop_eq_getElem_cons hlt] at w3
          cases eb : bindT t xs[i] r2 with
          | none =>
            have : forR F' (xs[i] :: xs.drop (i + 1)) r2 m2 = .bad := by
              rw [← hF]
              simp [forR, eb]
            rw [this] at w3
            exact False.elim w3
          | some r3 =>
            have hf : F' xs[i] r2 m2 = fb r3 m2 := by
              rw [← hF]
              simp [eb]
            refine ⟨M, O2, G2, r2, m2, xs[i], r3, R3, p3, eb, fun σ4 R4 _ => ⟨M, O2, G2, r3, m2, R4, ?_⟩⟩
            rw [← hf]
            rw [forR] at w3
            cases e : F' xs[i] r2 m2 with
            | nx r5 m5 =>
              rw [e] at w3
              exact fun O' G' σ5 H5 g R5 => ⟨rfl, hlt, O', G', r5, m5, R5, S3.gs R3 g, w3.grow g⟩
            | rt d m5 =>
              rw [e] at w3
              exact w3
            | ex _ _ _ =>
              rw [e] at w3
              exact w3
            | bad =>
              rw [e] at w3
              exact w3
        · have ei : i = xs.length := by omega
          subst ei
          rw [List.drop_length] at w2
          exact .inl ⟨F.2 _ _ _ _ (Rws.of S2) (Nat.le_refl _), w2 O2 G2 σ2 H2 .refl R2⟩⟩
end
end Mi

set_option linter.all false
set_option maxRecDepth 100000
set_option maxHeartbeats 8000000
/-! Mi15: what comes of a call is spoilt. -/
namespace Mi
open PySem PySem.Spec PyProof.Rows L2
section
variable {K : PySem.W.Frag} {B B' : Addr → Prop} {G G' : List Addr} {H H' : Hp}
mutual
theorem Rp.plain (ht : ∀ a xs, SqT K H a xs → SqT K H' a xs) : ∀ {d : D} {v : V}, noList d = true → Rp K B G H d v → Rp K B' G' H' d v
  | _, _, _, .non => .non
  | _, _, _, .bl b => .bl b
  | _, _, _, .int i => .int i
  | _, _, _, .str x => .str x
  | _, _, n, .lst _ _ _ => by
    unfold noList at n
    cases n
  | _, _, n, .tup h1 h2 => .tup (ht _ _ h1) (Rps.plain ht (by unfold noList at n; exact n) h2)
  | _, _, n, .ref _ => by
    unfold noList at n
    cases n
  | _, _, n, .scr _ => by
    unfold noList at n
    cases n
  | _, _, n, .dic _ _ _ => by
    unfold noList at n
    cases n
theorem Rps.plain (ht : ∀ a xs, SqT K H a xs → SqT K H' a xs) : ∀ {ds : List D} {vs : List V}, noLists ds = true → Rps K B G H ds vs → Rps K B' G' H' ds vs
  | _, _, _, .nil => .nil
  | _, _, n, .cons h1 h2 => by
    unfold noLists at n
    rw [Bool.and_eq_true] at n
    exact .cons (Rp.plain ht n.1 h1) (Rps.plain ht n.2 h2)
end
end
/-- all that is there, but the store -/
def There (H : Hp) (G : List Addr) (a : Addr) : Prop := H a ≠ none ∧ a ∉ G
section
variable {X : Cx} {a : Expr} {pos p : Pos}
def tSc (K : PySem.W.Frag) (g : Mi.Env0) (f : Nat) (es : Exs) : TE := fun σ H Q => ∃ M O G r m, Rep K M O G σ H r m ∧ ∃ ds m1 d m2, evs g es r m = .ok ds m1 ∧ noLists ds = true ∧ m1.all noLists = true ∧ g.call f ds m1 = .ok d m2 ∧ m2.all noLists = true ∧
  ∀ v H1 G1 H2 G2, Grow G H G1 H1 → Rep K M O G1 σ H1 r m1 → Grow G1 H1 G2 H2 → RepF K (There H1 G1) G2 H2 m2 → Rp K (BadF (There H1 G1) G2) G2 H2 d v → Q v H2
theorem all_get {m : Mu} (h : m.all noLists = true) {n : Nat} {ds : List D} (e : m[n]? = some ds) : noLists ds = true := by
  rw [List.all_eq_true] at h
  exact h _ (List.mem_of_getElem? e)
theorem Rep.there {K : PySem.W.Frag} {M : Addr → Prop} {O : Nat → Option Addr} {G : List Addr} {σ : L2.St} {H : Hp} {r : List Slot} {m : Mu} (R : Rep K M O G σ H r m) (h : m.all noLists = true) : RepF K (There H G) G H m where
  dom := fun a z => z.1
  len := rfl
  val := fun i d h => by simp at h
  own := fun i d h => by simp at h
  ownU := fun i j a h => by cases h
  ownH := fun i a h => by cases h
  st := fun n ds e => let ⟨a, xs, h1, h2, h3⟩ := R.st n ds e; ⟨a, xs, h1, h2, h3.plain (fun _ _ q => q) (all_get h e)⟩
  stl := R.stl
  stU := R.stU
  stM := fun a h z => z.2 h
/-- back from it, a new list changed since -/
theorem Rep.upT {K : PySem.W.Frag} {M : Addr → Prop} {O : Nat → Option Addr} {G1 G2 : List Addr} {σ : L2.St} {H1 H2 : Hp} {r : List Slot} {m1 m2 : Mu} (R : Rep K M O G1 σ H1 r m1) (g : Grow G1 H1 G2 H2) (F : RepF K (There H1 G1) G2 H2 m2) (h : m2.all noLists = true) {q : Addr} {xs ys : List V} (hq : H2 q = some (.lst xs)) (hq1 : H1 q = none) (hq2 : q ∉ G2) :
    Rep K M O G2 σ (upd H2 q (.lst ys)) r m2 := by
  have hh : ∀ a, Held M O a → There H1 G1 a := fun a z => by
    rcases z with z | ⟨i, z⟩
    · exact ⟨R.dom a z, fun w => R.stM a w z⟩
    · obtain ⟨⟨xs, e⟩, _, n⟩ := R.ownH i a z
      exact ⟨by rw [e]; exact fun w => (nomatch w), n⟩
  have ht : ∀ a zs, SqT K H2 a zs → SqT K (upd H2 q (.lst ys)) a zs := fun a zs e => by
    rcases e with (e | ⟨o, e⟩) | e
    · exact .inl (.inl (by rw [upd_ne (ne_of e hq fun z => nomatch z)]; exact e))
    · exact .inl (.inr ⟨o, by rw [upd_ne (ne_of e hq fun z => nomatch z)]; exact e⟩)
    · exact .inr e
  refine R.up (g.off hq1) ⟨fun a z => ?_, rfl, fun i d h => (by simp at h), fun i d h => (by simp at h), fun i j a h => (by cases h), fun i a h => (by cases h), fun n ds e => ?_, F.stl, F.stU, fun a z w => F.stM a z (hh a w)⟩
  · by_cases e : a = q
    · rw [e, upd_same]
      exact fun w => nomatch w
    · rw [upd_ne e]
      exact F.dom a (hh a z)
  · obtain ⟨b, zs, h1, h2, h3⟩ := F.st n ds e
    refine ⟨b, zs, h1, ?_, h3.plain ht (all_get h e)⟩
    rw [upd_ne fun z => hq2 (by rw [← z]; exact List.mem_of_getElem? h1)]
    exact h2
theorem f_sc {C : Cc} {g : Mi.Env0} {k f : Nat} {x : Str} (hk : Kn C g k X) (hf : C.fns[f]? = some x) (hg : glB X.env.scope x = true) {as : List Expr} {es : Exs} (ha : sA X (a :: as) (evs g es))
    (hs : starEach (a :: as) X.env = (false, eval a X.env) :: starEach as X.env) (hpl : (backTo pos (starEach as X.env)).any (·.1) = false) : PE X (.Call (.Name x p) (a :: as) [] pos) (tSc X.K g f es) := by
  obtain ⟨fa, fd, ps, F⟩ := hk.fn f x hf
  obtain ⟨g1, g2, g3⟩ := gl_of hg
  refine ⟨fun pins s σ H Q I h => ?_⟩
  obtain ⟨M, O, G, r, m, R, ds, m1, d, m2, e1, n1, n2, e2, n3, w⟩ := h
  refine wpAny_Call_Name_kw (ld_glob I g1 F.at_ ?_ g2)
  refine PySem.W.callWith_K (h₀ := X.base) I.ok.mod.kin F.keep (thn (ha.run pos pins s σ H (fun vs H1 => ∃ G1, Grow G H G1 H1 ∧ Rep X.K M O G1 σ H1 r m1 ∧ Rps X.K (Bad M O G1) G1 H1 ds vs) I ⟨M, O, G, r, m, R, ?_⟩) fun us s1 ⟨vs, H1, I1, rv, G1, gr, R1, p1⟩ => ⟨I1.kIn, ?_⟩) hs hpl
  · rw [e1]
    exact fun vs H1 G1 gr R1 p1 => ⟨G1, gr, R1, p1⟩
  · have hl : us.length = ps.length := by
      rw [← rv.length, ← p1.length]
      exact F.len ds m1 (by rw [e2]; exact fun z => nomatch z)
    have p2 : Rps X.K (BadF (There H1 G1) G1) G1 H1 ds vs := p1.plain (fun _ _ q => q) n1
    refine wpAny_call (codeAny_mono (F.run X.A X.stack s1 H1 ⟨us, []⟩ us vs ds G1 m1 (There H1 G1) Q hk.room hk.gd I1.env0 (.of_eq (F.pos us hl)) rv (R1.there n2) p2 ?_) fun r s' hq => ?_)
    · rw [e2]
      exact fun v H' G' gg RF pv => w v H1 G1 H' G' gr R1 gg RF pv
    · cases r with
      | error e => exact False.elim hq
      | ok fl =>
        cases fl with
        | ret u => exact I1.after hq
        | next => exact False.elim hq
        | brk => exact False.elim hq
        | cont => exact False.elim hq
/-- the part at a written path of what came -/
def tSp1 (K : PySem.W.Frag) (g : Mi.Env0) (f : Nat) (es : Exs) (path : List Nat) : TE := fun σ H Q => ∃ M O G r m, Rep K M O G σ H r m ∧ ∃ ds m1 d m2 d', evs g es r m = .ok ds m1 ∧ noLists ds = true ∧ m1.all noLists = true ∧ g.call f ds m1 = .ok d m2 ∧ m2.all noLists = true ∧ pathD d path = some d' ∧
  ∀ v H1 G1 H2 G2, Grow G H G1 H1 → Rep K M O G1 σ H1 r m1 → Grow G1 H1 G2 H2 → RepF K (There H1 G1) G2 H2 m2 → Rp K (BadF (There H1 G1) G2) G2 H2 d' v → Q v H2
theorem sp_nil {e : Expr} {g : Mi.Env0} {f : Nat} {es : Exs} (h : PE X e (tSc X.K g f es)) : PE X e (tSp1 X.K g f es []) :=
  pe_imp h fun σ H Q ⟨M, O, G, r, m, R, ds, m1, d, m2, d', e1, n1, n2, e2, n3, e4, w⟩ => ⟨M, O, G, r, m, R, ds, m1, d, m2, e1, n1, n2, e2, n3, by
    cases e4
    exact w⟩
theorem sp_one {e : Expr} {j : Nat} {p2 p3 : Pos} {g : Mi.Env0} {f : Nat} {es : Exs} {i : Nat} (h : PE X e (tSc X.K g f es)) : PE X (.Subscript e (.Constant (.int i) j p2) p3) (tSp1 X.K g f es [i]) :=
  pe_imp (pe_ix ix_tup h pe_int (fun _ _ => rfl)) fun σ H Q ⟨M, O, G, r, m, R, ds, m1, d, m2, d', e1, n1, n2, e2, n3, e4, w⟩ => ⟨M, O, G, r, m, R, ds, m1, d, m2, e1, n1, n2, e2, n3, fun v H1 G1 H2 G2 g1 R1 g2 RF pv => by
    cases d <;> first | (cases e4; done) | skip
    rename_i xs
    cases pv with
    | @tup q ys _ q1 q2 =>
      have e5 : (match xs[i]? with | some d => pathD d [] | none => none) = some d' := e4
      cases e6 : xs[i]? with
      | none =>
        rw [e6] at e5
        cases e5
      | some d2 =>
        rw [e6] at e5
        have e7 : d2 = d' := by
          have : pathD d2 [] = some d' := e5
          cases d2 <;> (cases this; rfl)
        subst e7
        obtain ⟨v2, h5, h6⟩ := q2.get e6
        refine ⟨q, ys, i, v2, rfl, rfl, q1, ?_, w v2 H1 G1 H2 G2 g1 R1 g2 RF h6⟩
        have hl : i < ys.length := (List.getElem?_eq_some_iff.mp h5).1
        unfold L2.atI L2.ixN
        rw [if_pos (by omega), if_pos (by omega)]
        exact h5⟩
/-- .. a sign of nothing is put at its end -/
theorem z_spoil {o cst : Expr} {cv : V} {ap p2 : Pos} {g : Mi.Env0} {f : Nat} {es : Exs} {path : List Nat} {cc : Const} (ho : PE X o (tSp1 X.K g f es path)) (hcst : PE X cst (tC cv)) (hbase : attributeBase o "append" X.env (eval o X.env) = eval o X.env) (hline : (ap.endLine == p.line) = true) (hs : starEach [cst] X.env = (false, eval cst X.env) :: starEach [] X.env) :
    zS X (.Expr (.Call (.Attribute o "append" ap) [cst] [] p) p2) fun r m => match callOf g (.call f es) r m with
    | some (d, m) => (match pathD d path with | some (.lst xs) => if fit (xs.length + 1) then .nx r m else .bad | _ => .bad)
    | _ => .bad := by
  refine ps_imp (ps_expr (pe_bm PySem.F.plainAttrs_list PySem.F.slot_list_append PySem.F.type_list_append mt_append ho (pa_cons hcst pa_nil hs) hbase (by rw [hs]; rfl) hline hs rfl) rfl) fun D σ H ⟨M, O, G, r, m, R, w⟩ => ?_
  refine ⟨M, O, G, r, m, R, ?_⟩
  dsimp only at w
  unfold callOf at w
  dsimp only at w
  cases e1 : evs g es r m with
  | ex _ _ _ =>
    rw [e1] at w
    exact False.elim w
  | bad =>
    rw [e1] at w
    exact False.elim w
  | ok ds m1 =>
    rw [e1] at w
    dsimp only at w
    by_cases hn : (noLists ds && m1.all noLists) = true
    · rw [if_pos hn] at w
      rw [Bool.and_eq_true] at hn
      cases e2 : g.call f ds m1 with
      | ex _ _ _ =>
        rw [e2] at w
        exact False.elim w
      | bad =>
        rw [e2] at w
        exact False.elim w
      | ok d m2 =>
        rw [e2] at w
        dsimp only at w
        by_cases hn2 : m2.all noLists = true
        · rw [if_pos hn2] at w
          dsimp only at w
          cases e3 : pathD d path with
          | none =>
            rw [e3] at w
            exact False.elim w
          | some d' =>
            rw [e3] at w
            cases d' <;> first | exact False.elim w | skip
            rename_i xs
            dsimp only at w
            split at w
            · rename_i hf
              refine ⟨ds, m1, d, m2, _, rfl, hn.1, hn.2, e2, hn2, e3, fun v H1 G1 H2 G2 g1 R1 g2 RF pv => ?_⟩
              cases pv with
              | @lst q ys _ q1 q2 q3 =>
                have hq2 : q ∉ G2 := fun z => q1 (.inr (.inl z))
                have hq1 : H1 q = none := by
                  cases e : H1 q with
                  | none => rfl
                  | some o =>
                    refine absurd (.inl ⟨by rw [e]; exact fun z => (nomatch z), fun z => ?_⟩) q1
                    obtain ⟨n, hn⟩ := List.getElem?_of_mem z
                    exact hq2 (List.mem_of_getElem? (g2.pre n q hn))
                refine ⟨.inl ⟨rfl, ys, SqL.of q2⟩, q, ys, cv, rfl, rfl, q2, ?_, ?_⟩
                · have := fit_le hf
                  rw [q3.length] at this
                  omega
                · exact w O G2 σ _ (g1.s.trans (g2.off hq1).s) (R1.upT g2 RF hn2 q2 hq1 hq2)
            · exact False.elim w
        · rw [if_neg hn2] at w
          exact False.elim w
    · rw [if_neg hn] at w
      exact False.elim w
/-- name = f(..); name.append(c) -/
theorem z_spoil2 {i : Nat} {x : Str} {p1 p2 p3 p4 p5 : Pos} {ap : Pos} {c0 cst : Expr} {cv : V} {g : Mi.Env0} {f : Nat} {es : Exs} {cc : Const} {rest : List Stmt} {f2 : List Slot → Mu → SRes} (hN : X.N.Nodup) (hn : NmOk X i x) (hv : PE X (.Name x p4) (tVar i)) (ho : PE X c0 (tSc X.K g f es)) (hsw : swapsWith c0 (some (.Name x p1)) p2.line X.env = pure false) (hcst : PE X cst (tC cv)) (hline : (ap.endLine == p3.line) = true) (hs : starEach [cst] X.env = (false, eval cst X.env) :: starEach [] X.env) (h2 : zSs X rest f2) :
    zSs X (.Assign [.Name x p1] c0 p2 :: .Expr (.Call (.Attribute (.Name x p4) "append" ap) [cst] [] p3) p5 :: rest) fun r m => match (match callOf g (.call f es) r m with
      | some (.lst xs, m) => if fit (xs.length + 1) && decide (i < r.length) then SRes.nx (r.set i .un) m else .bad
      | _ => .bad) with
      | .nx r m => f2 r m
      | o => o := by
  refine pss_imp (pss_cons (ps_set hN hn.1 hn.2.1 ho hsw hn.2.2) (pss_cons (ps_expr (pe_bm PySem.F.plainAttrs_list PySem.F.slot_list_append PySem.F.type_list_append mt_append hv (pa_cons hcst pa_nil hs) rfl (by rw [hs]; rfl) hline hs rfl) rfl) h2)) fun D σ H ⟨M, O, G, r, m, R, w⟩ => ?_
  refine ⟨M, O, G, r, m, R, ?_⟩
  dsimp only at w
  unfold callOf at w
  dsimp only at w
  cases e1 : evs g es r m with
  | ex _ _ _ =>
    rw [e1] at w
    exact False.elim w
  | bad =>
    rw [e1] at w
    exact False.elim w
  | ok ds m1 =>
    rw [e1] at w
    dsimp only at w
    by_cases hn1 : (noLists ds && m1.all noLists) = true
    · rw [if_pos hn1] at w
      rw [Bool.and_eq_true] at hn1
      cases e2 : g.call f ds m1 with
      | ex _ _ _ =>
        rw [e2] at w
        exact False.elim w
      | bad =>
        rw [e2] at w
        exact False.elim w
      | ok d m2 =>
        rw [e2] at w
        dsimp only at w
        by_cases hn2 : m2.all noLists = true
        · rw [if_pos hn2] at w
          cases d <;> first | exact False.elim w | skip
          rename_i xs
          dsimp only at w
          by_cases hf : (fit (xs.length + 1) && decide (i < r.length)) = true
          · rw [if_pos hf] at w
            dsimp only at w
            rw [Bool.and_eq_true, decide_eq_true_eq] at hf
            have hi : i < σ.length := by rw [← R.len]; exact hf.2
            replace hf := hf.1
            refine ⟨ds, m1, .lst xs, m2, rfl, hn1.1, hn1.2, e2, hn2, fun v H1 G1 H2 G2 g1 R1 g2 RF pv => ?_⟩
            cases pv with
            | @lst q ys _ q1 q2 q3 =>
              have hq2 : q ∉ G2 := fun z => q1 (.inr (.inl z))
              have hq1 : H1 q = none := by
                cases e : H1 q with
                | none => rfl
                | some o =>
                  refine absurd (.inl ⟨by rw [e]; exact fun z => (nomatch z), fun z => ?_⟩) q1
                  obtain ⟨n, hn⟩ := List.getElem?_of_mem z
                  exact hq2 (List.mem_of_getElem? (g2.pre n q hn))
              · refine ⟨.ref q, by rw [List.getElem?_set_self hi], .inl ⟨rfl, ys, SqL.of q2⟩, q, ys, cv, rfl, rfl, q2, ?_, ?_⟩
                · have := fit_le hf
                  rw [q3.length] at this
                  omega
                · exact ⟨M, O, G2, r.set i .un, m2, (R1.upT g2 RF hn2 q2 hq1 hq2).setUn, w.grow (g1.s.trans (g2.off hq1).s)⟩
          · rw [if_neg hf] at w
            exact False.elim w
        · rw [if_neg hn2] at w
          exact False.elim w
    · rw [if_neg hn1] at w
      exact False.elim w
end
end Mi

set_option linter.all false
set_option maxRecDepth 100000
set_option maxHeartbeats 8000000
/-! Mi16: whether a tree stands for a statement; every statement. -/
namespace Mi
open PySem PySem.Spec PyProof.Rows L2

def compT : Expr → Bool
  | .ListComp .. => true
  | _ => false
def tupV : Expr → Bool
  | .Tuple .. => true
  | .List .. => true
  | _ => false
def nmTg (C : Cc) (sc : Scope) (i : Nat) (x : Str) : Bool := slotB C i x && locB sc x && nmOk x
/-- a, b = v, w by the exchange of the stores -/
def swapOk (sc : Scope) (x y : Str) (px py : Pos) (vs : List Expr) : Bool :=
  isLocal sc x && isLocal sc y && (px.line == py.line) && !(x == y) && decide (vs.length = 2) && !(vs.all (foldedForSure 8)) && !(vs.all (constantsAlone 8))
def newT : Ex → Bool
  | .lst _ => true
  | .comp .. => true
  | .compIf .. => true
  | .b1 .list _ => true
  | .op .Mult _ _ => true
  | _ => false
def okSp (C : Cc) (sc : Scope) (e : Ex) (path : List Nat) (o : Expr) : Bool := match e with
  | .call f es => (match path with
    | [] => (match o with | .Call (.Name x _) as [] _ => decide (C.fns[f]? = some x) && glB sc x && okEs C sc es as && !as.isEmpty | _ => false)
    | [i] => (match o with | .Subscript (.Call (.Name x _) as [] _) (.Constant (.int j) _ _) _ => decide (j = (i : Int)) && decide (C.fns[f]? = some x) && glB sc x && okEs C sc es as && !as.isEmpty | _ => false)
    | _ => false)
  | _ => false
/-- name = f(..); name.append(c) -/
def okSp2 (C : Cc) (sc : Scope) : Stm → List Stmt → Bool
  | .spoil2 i e c, .Assign [.Name x _] v _ :: .Expr (.Call (.Attribute (.Name y _) n ap) [.Constant c' _ _] [] p) _ :: _ => nmTg C sc i x && decide (y = x) && slotB C i x && visB sc x && nmOk x && decide (n = ("append" : Str)) && decide (c' = c) && okC c && (ap.endLine == p.line) && okSp C sc e [] v
  | _, _ => false
def sp2T : Stm → Bool
  | .spoil2 .. => true
  | _ => false
def frzT : Stm → Bool
  | .frz _ => true
  | _ => false
/-- the exchange of two stores -/
def parB (C : Cc) (sc : Scope) (is : List Nat) (es : Exs) (own : List Nat) (ts vs : List Expr) : Bool := match ts with
  | [.Name x px, .Name y py] => swapOk sc x y px py vs && (match is with | [i, j] => nmTg C sc i x && nmTg C sc j y && okEs C sc es vs && (match own with | [] => true | [o] => decide (o = i) && (match es with | .cons e _ => newT e | _ => false) || decide (o = j) && (match es with | .cons _ (.cons e _) => newT e | _ => false) | [o1, o2] => decide (o1 = i) && decide (o2 = j) && (match es with | .cons e (.cons e2 _) => newT e && newT e2 | _ => false) | _ => false) | _ => false)
  | _ => false
/-- three names -/
def parT (C : Cc) (sc : Scope) (is : List Nat) (es : Exs) (own : List Nat) (ts vs : List Expr) : Bool := match ts with
  | [.Name x px, .Name y py, .Name z pz] => own.isEmpty && (isLocal sc x && isLocal sc y && isLocal sc z && (px.line == py.line) && (px.line == pz.line) && !(x == y) && !(x == z) && !(y == z) && decide (vs.length = 3) && !(vs.all (foldedForSure 8)) && !(vs.all (constantsAlone 8)))
      && (match is with | [i, j, l] => nmTg C sc i x && nmTg C sc j y && nmTg C sc l z && okEs C sc es vs | _ => false)
  | _ => false
/-- names that are exchanged: locals that stand on the first one's line -/
def swNames (sc : Scope) (line : Nat) (ts : List Expr) : List Str := ts.filterMap fun
  | .Name id pos => if sc.names.lookup id == some .local && pos.line == line then some id else none
  | _ => none
/-- the tuple is made, then taken apart -/
def parN (C : Cc) (sc : Scope) (is : List Nat) (es : Exs) (own : List Nat) (ts vs : List Expr) : Bool :=
  own.isEmpty && ((swNames sc ((ts.head?.map (·.pos.line)).getD 0) ts).length != ts.length || vs.all (foldedForSure 8)) && okT C sc (.tp is) (.Tuple ts 0 ⟨0, 0, 0, 0⟩) && decide (es.len ≤ 100) && okEs C sc es vs
mutual
def okS (C : Cc) (sc : Scope) : Stm → Stmt → Bool
  | .set i e, s => match s with | .Assign [.Name x _] v _ => nmTg C sc i x && okE C sc e v | _ => false
  | .seto i e, s => match s with | .Assign [.Name x _] v _ => nmTg C sc i x && okE C sc e v && newT e | _ => false
  | .par is es own, s => match s with
    | .Assign [.Tuple ts _ _] (.Tuple vs _ _) _ => parB C sc is es own ts vs || parN C sc is es own ts vs || parT C sc is es own ts vs
    | _ => false
  | .unp is e, s => match s with
    | .Assign [.Tuple ts _ _] v _ => okT C sc (.tp is) (.Tuple ts 0 ⟨0, 0, 0, 0⟩) && !tupV v && okE C sc e v
    | _ => false
  | .app i e, s => match s with | .Expr (.Call (.Attribute (.Name x _) n ap) [v] [] p) _ => decide (n = ("append" : Str)) && slotB C i x && visB sc x && nmOk x && (ap.endLine == p.line) && okE C sc e v | _ => false
  | .ext i e, s => match s with | .Expr (.Call (.Attribute (.Name x _) n ap) [v] [] p) _ => decide (n = ("extend" : Str)) && slotB C i x && visB sc x && nmOk x && (ap.endLine == p.line) && okE C sc e v | _ => false
  | .seti i ie e, s => match s with | .Assign [.Subscript (.Name x _) k _] v _ => slotB C i x && visB sc x && nmOk x && okE C sc ie k && okE C sc e v | _ => false
  | .popa i j e, s => match s with | .Expr (.Call (.Attribute (.Name x _) n ap) [.Call (.Attribute (.Name y _) n2 ap2) [v] [] p4] [] p) _ => decide (n = ("append" : Str)) && decide (n2 = ("pop" : Str)) && (i != j) && slotB C i x && visB sc x && nmOk x && slotB C j y && visB sc y && nmOk y && (ap.endLine == p.line) && (ap2.endLine == p4.line) && okE C sc e v | _ => false
  | .spoil2 _ _ _, _ => false
  | .setr i c e, s => match s with | .Assign [.Subscript (.Name x _) (.Constant (.int j) _ _) _] v _ => decide (j = (c : Int)) && slotB C i x && visB sc x && nmOk x && okE C sc e v | _ => false
  | .setrp i c k e, s => match s with
    | .Assign [.Tuple [.Subscript (.Name x _) (.Constant (.int j) _ _) _, .Name y _] _ _] v _ => decide (j = (c : Int)) && slotB C i x && visB sc x && nmOk x && nmTg C sc k y && !tupV v && okE C sc e v
    | _ => false
  | .drop e, s => match s with | .Expr v _ => !compT v && okE C sc e v | _ => false
  | .spoil e path c, s => match s with | .Expr (.Call (.Attribute o n ap) [.Constant c' _ _] [] p) _ => decide (n = ("append" : Str)) && decide (c' = c) && okC c && (ap.endLine == p.line) && okSp C sc e path o | _ => false
  | .cond c a b, s => match s with | .If v A B _ => okE C sc c v && okSs C sc a A && okSs C sc b B | _ => false
  | .for_ tg ik its b, s => match s with
    | .For t it B [] _ => okT C sc tg t && (match ik with | .enum => tupT t | .zip => tupT t | _ => true) && okIt C sc ik its it && okSs C sc b B
    | _ => false
  | .while_ c b, s => match s with | .While v B [] _ => okE C sc c v && okSs C sc b B | _ => false
  | .ret e, s => match s with | .Return (some v) _ => okE C sc e v | _ => false
  | .retr es, s => match s with | .Return (some (.List as _)) _ => decide (es.len ≤ 100) && okEs C sc es as | _ => false
  | .retN, s => match s with | .Return none _ => true | _ => false
  | .raise _ _, _ => true
  | .frz _, _ => false
def okSs (C : Cc) (sc : Scope) : Stms → List Stmt → Bool
  | .nil, l => match l with | [] => true | _ => false
  | .cons s ss, l => if frzT s then okSs C sc ss l else if sp2T s then okSp2 C sc s l && okSs C sc ss (l.drop 2) else match l with | x :: xs => okS C sc s x && okSs C sc ss xs | [] => false
end

/-- what a def's body has -/
structure KnS (C : Cc) (g : Mi.Env0) (k : Nat) (X : Cx) : Prop where
  kn : Kn C g k X
  all : ∀ x, X.fn x = true
  po : PassesOwn (model X.prog X.w) X.A X.env X.xe
  kind : X.env.scope.kind = .function
section
variable {C : Cc} {g : Mi.Env0} {k : Nat} {X : Cx}
theorem KnS.nd (h : KnS C g k X) : X.N.Nodup := by
  rw [h.kn.N]
  exact h.kn.nd
theorem KnS.nm (h : KnS C g k X) {i : Nat} {x : Str} (q : nmTg C X.env.scope i x = true) : NmOk X i x := by
  unfold nmTg at q
  simp only [Bool.and_eq_true] at q
  exact ⟨by rw [h.kn.N]; exact slot_of q.1.1, loc_of q.1.2, .inl (h.all x)⟩
theorem KnS.blk (h : KnS C g k X) : X.env.blockKind = .function := by
  unfold Env.blockKind
  rw [h.kind]
  rfl
theorem swaps_cases (h : KnS C g k X) {e : Ex} {v : Expr} (ok : okE C X.env.scope e v = true) (x : Str) (p : Pos) (line : Nat) :
    swapsWith v (some (.Name x p)) line X.env = pure false ∨ (isComp e = true ∧ X.env.scope.names.lookup x = some .local ∧ swapsWith v (some (.Name x p)) line X.env = pure true) := by
  cases v <;> first | exact .inl rfl | skip
  · rename_i elt gens scope vp
    have hc : isComp e = true := by
      cases e <;> first | rfl | (unfold okE at ok; cases ok; done) | (unfold okE at ok; rename_i k _; cases k <;> cases ok)
    have hd : swapsWith (.ListComp elt gens scope vp) (some (.Name x p)) line X.env = pure (X.env.blockKind == .function && X.env.kindOf x == some .local && p.line == vp.line && !(scope.names.any fun (n, k) => n == x && (k == .local || k == .cell))) := rfl
    rw [hd]
    cases hb : (X.env.blockKind == .function && X.env.kindOf x == some .local && p.line == vp.line && !(scope.names.any fun (n, k) => n == x && (k == .local || k == .cell))) with
    | false => exact .inl rfl
    | true =>
      simp only [Bool.and_eq_true] at hb
      exact .inr ⟨hc, eq_of_beq hb.1.1.2, rfl⟩
  · unfold okE at ok
    cases e <;> first | (cases ok; done) | (rename_i k _; cases k <;> cases ok)
  · unfold okE at ok
    cases e <;> first | (cases ok; done) | (rename_i k _; cases k <;> cases ok)
theorem asg_val (h : KnS C g k X) {e : Ex} {v : Expr} {i : Nat} {x : Str} {p sp : Pos} (hn : NmOk X i x) (ok : okE C X.env.scope e v = true) : PS X (.Assign [.Name x p] v sp) (tAsg (tG X.K (Rp X.K) (ev g e)) (gName i)) := by
  have q := main_E C g k e X v h.kn ok
  rcases swaps_cases h ok x p sp.line with hs | ⟨hc, hl, hs⟩
  · exact ps_set h.nd hn.1 hn.2.1 q.v hs hn.2.2
  · have cc := main_C C g k h.kn ok hc
    exact ps_imp (cc.s i x p sp hn.1 hl hs) fun D σ H w => by
      obtain ⟨M, O, G, r, m, R, w⟩ := w
      exact ⟨M, O, G, r, m, R, w.new (cc.l r m)⟩
theorem lst_new {es : Exs} {as : List Expr} {p : Pos} (q : LOk X g es as) (hl : es.len ≤ 100) : PE X (.List as p) (tN X.K (ev g (.lst es))) :=
  pe_imp (pe_lst q.a) fun σ H Q ⟨M, O, G, r, m, R, w⟩ => ⟨M, O, G, r, m, R, by
    simp only [ev] at w
    cases e1 : evs g es r m with
    | ex _ _ _ =>
      rw [e1] at w
      exact w
    | bad =>
      rw [e1] at w
      exact w
    | ok ds m1 =>
      rw [e1] at w
      exact fun vs H1 G1 g1 R1 p1 => ⟨by rw [← p1.length, evs_len es r m ds m1 e1]; exact size100 hl, fun q hq => by
        have hp0 : H q = none := by
          cases eh : H q with
          | none => rfl
          | some o =>
            by_cases hg : q ∈ G
            · obtain ⟨n, hn⟩ := List.getElem?_of_mem hg
              obtain ⟨ys, hy⟩ := R1.lst (List.mem_of_getElem? (g1.pre n q hn))
              rw [hq] at hy
              cases hy
            · have := (g1.keep q o eh hg).1
              rw [hq] at this
              cases this
        exact w q vs _ G1 hp0 (g1.trans (Grow.same (same_upd hq))) (fun z => R1.dom q z hq) (R1.forbid hq) upd_same (Rps.forbid R1 hq p1)⟩⟩
/-- a list of the store's size is made at a new place -/
theorem newQ {K : PySem.W.Frag} {M : Addr → Prop} {O : Nat → Option Addr} {G G1 : List Addr} {σ : L2.St} {H H1 : Hp} {r : List Slot} {m1 : Mu} {ds : List Mi.D} {vs : List V} {Q : VK} (w : WantN K M O σ r G H (.ok (.lst ds) m1) Q) (g1 : Grow G H G1 H1) (R1 : Rep K M O G1 σ H1 r m1) {q : Addr} (hq : H1 q = none) (p1 : Rps K (Bad M O G1) G1 H1 ds vs) : Q (.ref q) (upd H1 q (.lst vs)) := by
  have hp0 : H q = none := by
    cases eh : H q with
    | none => rfl
    | some o =>
      by_cases hg : q ∈ G
      · obtain ⟨n, hn⟩ := List.getElem?_of_mem hg
        obtain ⟨ys, hy⟩ := R1.lst (List.mem_of_getElem? (g1.pre n q hn))
        rw [hq] at hy
        cases hy
      · have := (g1.keep q o eh hg).1
        rw [hq] at this
        cases this
  exact w q vs _ G1 hp0 (g1.trans (Grow.same (same_upd hq))) (fun z => R1.dom q z hq) (R1.forbid hq) upd_same (Rps.forbid R1 hq p1)
theorem WantN.of_ok {K : PySem.W.Frag} {M : Addr → Prop} {O : Nat → Option Addr} {G : List Addr} {σ : L2.St} {H : Hp} {r : List Slot} {x : Res Mi.D} {Q : VK} (w : WantN K M O σ r G H x Q) : ∃ ds m, x = .ok (.lst ds) m := by
  cases x with
  | ex _ _ _ => exact False.elim w
  | bad => exact False.elim w
  | ok d m => cases d <;> first | exact ⟨_, _, rfl⟩ | exact False.elim w
theorem listN {a : Expr} {p pos : Pos} {fa : List Slot → Mu → Res Mi.D} (hgl : Gl X "list") (hm : X.mg "list" = none) (ha : sX X a fa) (hs : starEach [a] X.env = (false, eval a X.env) :: starEach [] X.env) :
    PE X (.Call (.Name "list" p) [a] [] pos) (tN X.K fun r m => (fa r m).bind fun x m => .of (b1op .list x) m) :=
  pe_imp (pe_callTy call_list_of hgl hm PyProof.Rows.boot_list (pa_cons ha pa_nil hs) (by decide) (by decide) hs rfl) fun σ H Q ⟨M, O, G, r, m, R, w⟩ => ⟨M, O, G, r, m, R, by
    obtain ⟨ds, m1, e⟩ := w.of_ok
    obtain ⟨x, m2, e1, e2⟩ := bind_ok e
    replace w : WantN X.K M O σ r G H (.ok (.lst ds) m1) Q := by
      rw [← e]
      exact w
    rw [e1]
    have e3 := of_ok e2
    have em : m2 = m1 := by
      rw [e3] at e2
      cases e2
      rfl
    subst em
    intro v H1 G1 g1 R1 p1
    cases x <;> first | (cases e3; done) | skip
    · cases e3
      obtain ⟨q, xs, rfl, h1, h2⟩ := p1.lst
      exact ⟨q, xs, rfl, .inl (SqL.of h1), fun l hl => newQ w g1 R1 hl h2⟩
    · cases e3
      obtain ⟨q, xs, rfl, h1, h2⟩ := p1.tup
      exact ⟨q, xs, rfl, .inr h1, fun l hl => newQ w g1 R1 hl h2⟩⟩
theorem multN {a b : Expr} {pos : Pos} {fa fb : List Slot → Mu → Res Mi.D} (ha : sX X a fa) (hb : sX X b fb) :
    PE X (.BinOp a .Mult b pos) (tN X.K fun r m => (fa r m).bind fun x m => (fb r m).bind fun y m => .of (binop .Mult x y) m) :=
  pe_imp (pe_op op_rep ha hb) fun σ H Q ⟨M, O, G, r, m, R, w⟩ => ⟨M, O, G, r, m, R, by
    obtain ⟨ds, m1, e⟩ := w.of_ok
    obtain ⟨x, m2, e1, e2⟩ := bind_ok e
    obtain ⟨y, m3, e3, e4⟩ := bind_ok e2
    replace w : WantN X.K M O σ r G H (.ok (.lst ds) m1) Q := by
      rw [← e]
      exact w
    rw [e1]
    have e5 := of_ok e4
    have em : m3 = m1 := by
      rw [e5] at e4
      cases e4
      rfl
    subst em
    intro v H1 G1 g1 R1 p1
    refine ⟨M, O, G1, r, m2, R1, ?_⟩
    rw [e3]
    intro u H2 G2 g2 R2 p2
    have p3 := R1.rw g2 p1
    cases x <;> cases y <;> first | (cases e5; done) | skip
    · unfold binop at e5
      dsimp only at e5
      split at e5 <;> cases e5
    · unfold binop at e5
      dsimp only at e5
      split at e5
      · rename_i hf
        cases e5
        simp only [Bool.and_eq_true, decide_eq_true_eq] at hf
        obtain ⟨q, xs, rfl, h1, h2⟩ := p3.lst
        have := p2.int
        subst this
        exact ⟨q, _, xs, rfl, rfl, h1, by omega, by omega, by rw [← h2.length]; exact fit_le hf.2, fun l hl => newQ w (g1.trans g2) R2 hl (h2.repl _)⟩
      · cases e5⟩
theorem new_val (h : KnS C g k X) {e : Ex} {v : Expr} (ok : okE C X.env.scope e v = true) (hn : newT e = true) : PE X v (tN X.K (ev g e)) := by
  cases e <;> first | (cases hn; done) | skip
  · unfold okE at ok
    split at ok
    · simp only [Bool.and_eq_true, decide_eq_true_eq] at ok
      exact lst_new (main_L C g k _ X _ h.kn ok.2) ok.1
    · cases ok
  · rename_i o a b
    cases o <;> first | (cases hn; done) | skip
    unfold okE at ok
    split at ok
    · simp only [Bool.and_eq_true, decide_eq_true_eq] at ok
      obtain ⟨⟨o1, o2⟩, o3⟩ := ok
      subst o1
      exact pe_imp (multN (main_E C g k a X _ h.kn o2).x (main_E C g k b X _ h.kn o3).x) fun σ H Q w => tN.eq w fun r m => by simp only [ev]
    · cases ok
  · rename_i b a
    cases b <;> first | (cases hn; done) | skip
    unfold okE at ok
    split at ok
    · simp only [Bool.and_eq_true, decide_eq_true_eq] at ok
      obtain ⟨⟨o1, o2⟩, o3⟩ := ok
      subst o1
      have qa := main_E C g k a X _ h.kn o3
      exact pe_imp (listN (gl_of o2).1 (h.kn.blt _ (by simp [bltNames, B1.name])) qa.x (tame_star qa.tm)) fun σ H Q w => tN.eq w fun r m => by simp only [ev]
    · cases ok
  · exact (main_C C g k h.kn ok rfl).v
  · exact (main_C C g k h.kn ok rfl).v
theorem asg_new (h : KnS C g k X) {e : Ex} {v : Expr} {i : Nat} {x : Str} {p sp : Pos} (hn : NmOk X i x) (ok : okE C X.env.scope e v = true) (ht : newT e = true) : PS X (.Assign [.Name x p] v sp) (tAsg (tN X.K (ev g e)) (gName i)) := by
  rcases swaps_cases h ok x p sp.line with hs | ⟨hc, hl, hs⟩
  · exact ps_set h.nd hn.1 hn.2.1 (new_val h ok ht) hs hn.2.2
  · exact (main_C C g k h.kn ok hc).s i x p sp hn.1 hl hs
theorem swap_none (h : KnS C g k X) {ts vs : List Expr} {kt k2 : Nat} {pt pt2 : Pos} (q : ((swNames X.env.scope ((ts.head?.map (·.pos.line)).getD 0) ts).length != ts.length || vs.all (foldedForSure 8)) = true) :
    swappedStores [.Tuple ts kt pt] (.Tuple vs k2 pt2) X.env = pure none := by
  unfold swappedStores
  simp only [bind_pure_comp, pure_bind]
  split
  · rfl
  · split
    · rfl
    · rw [Bool.or_eq_true] at q
      rcases q with q | q
      · have q2 : ((swNames X.env.scope ((ts.head?.map (·.pos.line)).getD 0) ts).length != ts.length || (swNames X.env.scope ((ts.head?.map (·.pos.line)).getD 0) ts).eraseDups.length != (swNames X.env.scope ((ts.head?.map (·.pos.line)).getD 0) ts).length) = true := by rw [q, Bool.true_or]
        exact if_pos q2
      · split
        · rfl
        · first | rfl | rw [if_pos q]
theorem swap_two (h : KnS C g k X) {x y : Str} {px py pt pt2 : Pos} {kt k2 : Nat} {a b : Expr} (ha : tame a = true) (hb : tame b = true) (ok : swapOk X.env.scope x y px py [a, b] = true) :
    swappedStores [.Tuple [.Name x px, .Name y py] kt pt] (.Tuple [a, b] k2 pt2) X.env = pure (some [x, y]) ∧ X.env.scope.names.lookup x = some .local ∧ X.env.scope.names.lookup y = some .local ∧ x ≠ y := by
  unfold swapOk at ok
  simp only [Bool.and_eq_true, Bool.not_eq_true', beq_eq_false_iff_ne, ne_eq, beq_iff_eq] at ok
  obtain ⟨⟨⟨⟨⟨⟨h1, h2⟩, h3⟩, h4⟩, h5⟩, h6⟩, h7⟩ := ok
  have l1 : X.env.scope.names.lookup x = some .local := by
    unfold isLocal at h1
    split at h1
    · assumption
    · cases h1
  have l2 : X.env.scope.names.lookup y = some .local := by
    unfold isLocal at h2
    split at h2
    · assumption
    · cases h2
  refine ⟨?_, l1, l2, h4⟩
  have k1 : X.env.kindOf x = some .local := l1
  have k2 : X.env.kindOf y = some .local := l2
  have e1 : [x, y].eraseDups.length = 2 := by
    have : (y == x) = false := beq_eq_false_iff_ne.mpr fun z => h4 z.symm
    simp [List.eraseDups_cons, this]
  unfold swappedStores
  simp [h.blk, k1, k2, h3, h6, h7, Expr.pos, e1]
  rintro (q | q)
  · cases a <;> first | (cases q; done) | (cases ha; done)
  · cases b <;> first | (cases q; done) | (cases hb; done)
theorem swap_three (h : KnS C g k X) {x y z : Str} {px py pz pt pt2 : Pos} {kt k2 : Nat} {a b c : Expr} (ha : tame a = true) (hb : tame b = true) (hd : tame c = true)
    (ok : (isLocal X.env.scope x && isLocal X.env.scope y && isLocal X.env.scope z && (px.line == py.line) && (px.line == pz.line) && !(x == y) && !(x == z) && !(y == z) && decide ([a, b, c].length = 3) && !([a, b, c].all (foldedForSure 8)) && !([a, b, c].all (constantsAlone 8))) = true) :
    swappedStores [.Tuple [.Name x px, .Name y py, .Name z pz] kt pt] (.Tuple [a, b, c] k2 pt2) X.env = pure (some [x, y, z]) ∧ X.env.scope.names.lookup x = some .local ∧ X.env.scope.names.lookup y = some .local ∧ X.env.scope.names.lookup z = some .local ∧ x ≠ y ∧ x ≠ z ∧ y ≠ z := by
  simp only [Bool.and_eq_true, Bool.not_eq_true', beq_eq_false_iff_ne, ne_eq, beq_iff_eq] at ok
  obtain ⟨⟨⟨⟨⟨⟨⟨⟨⟨⟨h1, h2⟩, h0⟩, h3⟩, h3'⟩, h4⟩, h4'⟩, h4''⟩, h5⟩, h6⟩, h7⟩ := ok
  have lo : ∀ {x : Str}, isLocal X.env.scope x = true → X.env.scope.names.lookup x = some .local := fun {x} q => by
    unfold isLocal at q
    split at q
    · assumption
    · cases q
  have l1 := lo h1
  have l2 := lo h2
  have l3 := lo h0
  refine ⟨?_, l1, l2, l3, h4, h4', h4''⟩
  have k1 : X.env.kindOf x = some .local := l1
  have k2 : X.env.kindOf y = some .local := l2
  have k3 : X.env.kindOf z = some .local := l3
  have e1 : [x, y, z].eraseDups.length = 3 := by
    have q1 : (y == x) = false := beq_eq_false_iff_ne.mpr fun z => h4 z.symm
    have q2 : (z == x) = false := beq_eq_false_iff_ne.mpr fun z => h4' z.symm
    have q3 : (z == y) = false := beq_eq_false_iff_ne.mpr fun z => h4'' z.symm
    simp [List.eraseDups_cons, q1, q2, q3]
  unfold swappedStores
  simp [h.blk, k1, k2, k3, h3, h3', h6, h7, Expr.pos, e1]
  have e2 : (x :: y :: [z]).eraseDups.length = 3 := e1
  have e3 : pz.line = py.line := h3'.symm.trans h3
  simp [List.filterMap_cons, k3, e2, e3]
  rintro (q | q | q)
  · cases a <;> first | (cases q; done) | (cases ha; done)
  · cases b <;> first | (cases q; done) | (cases hb; done)
  · cases c <;> first | (cases q; done) | (cases hd; done)
end
end Mi

set_option linter.all false
set_option maxRecDepth 100000
set_option maxHeartbeats 8000000
/-! Mi17: every statement. -/
namespace Mi
open PySem PySem.Spec PyProof.Rows L2
section
variable {C : Cc} {g : Mi.Env0} {k : Nat} {X : Cx}
theorem tgL_of (h : KnS C g k X) : ∀ {is : List Nat} {ts : List Expr}, is.length = ts.length → ((is.zip ts).all fun p => match p.2 with | .Name x _ => slotB C p.1 x && locB X.env.scope x && nmOk x | _ => false) = true → TgL X is ts
  | [], [], _, _ => trivial
  | i :: is, t :: ts, hl, q => by
    rw [List.zip_cons_cons, List.all_cons, Bool.and_eq_true] at q
    obtain ⟨h1, h2⟩ := q
    split at h1
    · rename_i x q e
      have e : t = .Name x q := e
      subst e
      exact ⟨h.nm h1, tgL_of h (by simpa using hl) h2⟩
    · cases h1
  | [], _ :: _, hl, _ => by cases hl
  | _ :: _, [], hl, _ => by cases hl
theorem tg_of (h : KnS C g k X) {t : Tgt} {e : Expr} (q : okT C X.env.scope t e = true) : TgOk X t e := by
  unfold okT at q
  split at q
  · exact h.nm q
  · simp only [Bool.and_eq_true, decide_eq_true_eq] at q
    exact tgL_of h q.1 q.2
  · cases q
theorem var_of (h : KnS C g k X) {i : Nat} {x : Str} {p : Pos} (h1 : slotB C i x = true) (h2 : visB X.env.scope x = true) (h3 : nmOk x = true) : PE X (.Name x p) (tVar i) := pe_var (by rw [h.kn.N]; exact slot_of h1) (vis_of h2) (nm_of h3).1 (nm_of h3).2
theorem cst_pe {c : Const} {j : Nat} {p : Pos} (h : okC c = true) : ∃ v, PE X (.Constant c j p) (tC v) := by
  cases c <;> first | (cases h; done) | exact ⟨_, pe_non⟩ | exact ⟨_, pe_bl⟩ | exact ⟨_, pe_int⟩ | exact ⟨_, pe_str⟩
theorem sw_tup {t : Expr} {v : Expr} {line : Nat} {env : Env} (h : ∀ n p, t ≠ .Name n p) : swapsWithSole [t] v line env = pure false := by
  unfold swapsWithSole swapsWith
  cases v <;> first | rfl | (cases t <;> first | rfl | exact absurd rfl (h _ _))
theorem stores_none {t : Expr} {v : Expr} {env : Env} (h : tupV v = false) : swappedStores [t] v env = pure none := by
  cases v <;> first | (cases h; done) | (cases t <;> rfl)
theorem sp_of (h : KnS C g k X) {e : Ex} {path : List Nat} {o : Expr} (q : okSp C X.env.scope e path o = true) : ∃ f es, e = .call f es ∧ PE X o (tSp1 X.K g f es path) ∧ noCall0 o = true := by
  unfold okSp at q
  split at q
  · rename_i f es
    refine ⟨f, es, rfl, ?_⟩
    split at q
    · split at q
      · simp only [Bool.and_eq_true, decide_eq_true_eq, Bool.not_eq_true'] at q
        obtain ⟨⟨⟨h1, h2⟩, h3⟩, h4⟩ := q
        rename_i x p as pos
        have L := main_L C g k es X _ h.kn h3
        cases as with
        | nil => cases h4
        | cons a r => exact ⟨sp_nil (f_sc h.kn h1 h2 L.a (tame_star (L.tm a (by simp))) (by
            have := L.pl pos
            rw [tame_star (L.tm a (by simp))] at this
            simpa [backTo] using this)), rfl⟩
      · cases q
    · split at q
      · simp only [Bool.and_eq_true, decide_eq_true_eq, Bool.not_eq_true'] at q
        obtain ⟨⟨⟨⟨h0, h1⟩, h2⟩, h3⟩, h4⟩ := q
        subst h0
        rename_i x p as pos j p2 p3
        have L := main_L C g k es X _ h.kn h3
        cases as with
        | nil => cases h4
        | cons a r => exact ⟨sp_one (f_sc h.kn h1 h2 L.a (tame_star (L.tm a (by simp))) (by
            have := L.pl pos
            rw [tame_star (L.tm a (by simp))] at this
            simpa [backTo] using this)), rfl⟩
      · cases q
    · cases q
  · cases q
theorem par_or {r : List Slot} {i j : Nat} (hij : i ≠ j) {d1 d2 : D} : ownAll (setAll r [i, j] [d1, d2]) [i] = none ∨ ∃ l, d1 = .lst l ∧ ownAll (setAll r [i, j] [d1, d2]) [i] = some ((r.set i (.own l)).set j (.val d2)) := by
  have e : setAll r [i, j] [d1, d2] = (r.set i (.val d1)).set j (.val d2) := rfl
  rw [e]
  simp only [ownAll]
  rw [List.getElem?_set_ne (Ne.symm hij)]
  by_cases hi : i < r.length
  · rw [List.getElem?_set_self hi]
    cases d1 <;> first | exact .inl rfl | skip
    refine .inr ⟨_, rfl, ?_⟩
    dsimp only
    rw [List.set_comm _ _ (Ne.symm hij), List.set_set]
  · rw [List.getElem?_eq_none (by rw [List.length_set]; omega)]
    exact .inl rfl
theorem own_two {r : List Slot} {i j : Nat} (hij : i ≠ j) {d1 d2 : D} : ownAll (setAll r [i, j] [d1, d2]) [j] = (if j < r.length then (match d2 with | .lst l => some ((r.set i (.val d1)).set j (.own l)) | _ => none) else none) := by
  have e : setAll r [i, j] [d1, d2] = (r.set i (.val d1)).set j (.val d2) := rfl
  rw [e]
  simp only [ownAll]
  by_cases hj : j < r.length
  · rw [List.getElem?_set_self (by rw [List.length_set]; exact hj), if_pos hj]
    cases d2 <;> first | rfl | (dsimp only; rw [List.set_set])
  · rw [List.getElem?_eq_none (by rw [List.length_set, List.length_set]; omega), if_neg hj]
theorem own_both {r : List Slot} {i j : Nat} (hij : i ≠ j) {d1 d2 : D} : ownAll (setAll r [i, j] [d1, d2]) [i, j] = (if i < r.length ∧ j < r.length then (match d1, d2 with | .lst k, .lst l => some ((r.set i (.own k)).set j (.own l)) | _, _ => none) else none) := by
  have e : setAll r [i, j] [d1, d2] = (r.set i (.val d1)).set j (.val d2) := rfl
  rw [e]
  simp only [ownAll]
  rw [List.getElem?_set_ne (Ne.symm hij)]
  by_cases hi : i < r.length
  · rw [List.getElem?_set_self hi]
    cases d1 <;> first | (simp; done) | skip
    rename_i l
    dsimp only
    rw [List.set_comm _ _ (Ne.symm hij), List.set_set]
    by_cases hj : j < r.length
    · rw [List.getElem?_set_self (by rw [List.length_set]; exact hj), if_pos ⟨hi, hj⟩]
      cases d2 <;> first | rfl | (dsimp only; rw [List.set_set])
    · rw [List.getElem?_eq_none (by rw [List.length_set, List.length_set]; omega), if_neg fun z => hj z.2]
  · rw [List.getElem?_eq_none (by rw [List.length_set]; omega), if_neg fun z => hi z.1]
theorem par_two (h : KnS C g k X) {n : Nat} {is : List Nat} {es : Exs} {own : List Nat} {ts vs : List Expr} {kt k2 : Nat} {pt pt2 pos : Pos} (ok : parB C X.env.scope is es own ts vs = true) : zS X (.Assign [.Tuple ts kt pt] (.Tuple vs k2 pt2) pos) (evS g n (.par is es own)) := by
    unfold parB at ok
    split at ok
    · rename_i x px y py
      rw [Bool.and_eq_true] at ok
      obtain ⟨o1, o2⟩ := ok
      split at o2
      · rename_i i j
        simp only [Bool.and_eq_true] at o2
        obtain ⟨⟨⟨n1, n2⟩, o3⟩, o4⟩ := o2
        have hl : vs.length = 2 := by
          unfold swapOk at o1
          simp only [Bool.and_eq_true, decide_eq_true_eq] at o1
          exact o1.1.1.2
        rcases vs with _ | ⟨a, _ | ⟨b, _ | ⟨_, _⟩⟩⟩ <;> first | (cases hl; done) | skip
        have L := main_L C g k es X _ h.kn o3
        obtain ⟨sw, lx, ly, hxy⟩ := swap_two (kt := kt) (k2 := k2) (pt := pt) (pt2 := pt2) h (L.tm a (by simp)) (L.tm b (by simp)) o1
        have N1 := h.nm n1
        have N2 := h.nm n2
        have hij : i ≠ j := fun z => by
          subst z
          have := N1.1.symm.trans N2.1
          exact hxy (Option.some.inj this)
        split at o4
        · exact zs_of (z_par h.kn.calm h.nd N1.1 N2.1 hij lx ly L.a sw) fun r m => by simp only [evS, ownAll]
        · rw [Bool.or_eq_true, Bool.and_eq_true, Bool.and_eq_true, decide_eq_true_eq, decide_eq_true_eq] at o4
          rcases o4 with ⟨rfl, o5⟩ | ⟨rfl, o5⟩
          case inr =>
            rcases es with _ | ⟨e1, _ | ⟨e2, _ | ⟨_, _⟩⟩⟩
            · cases o5
            · cases o5
            · simp only [okEs, Bool.and_eq_true] at o3
              have q1 := main_E C g k e1 X a h.kn o3.1
              refine ps_imp (z_parV h.kn.calm h.nd N1.1 N2.1 hij lx ly q1.v (new_val h o3.2.1 o5) (tame_star (L.tm a (by simp))) (tame_star (L.tm b (by simp))) sw) fun D σ H ⟨M, O, G, r, m, R, w⟩ => ⟨M, O, G, r, m, R, ?_⟩
              simp only [evS, evs] at w
              dsimp only
              cases e1v : ev g e1 r m with
              | ex _ _ _ =>
                rw [e1v] at w
                exact w
              | bad =>
                rw [e1v] at w
                exact w
              | ok d1 m1 =>
                rw [e1v] at w
                dsimp only [Res.bind] at w ⊢
                cases e2v : ev g e2 r m1 with
                | ex _ _ _ =>
                  rw [e2v] at w
                  exact w
                | bad =>
                  rw [e2v] at w
                  exact w
                | ok d2 m2 =>
                  rw [e2v] at w
                  dsimp only [Res.bind, Res.st] at w ⊢
                  rw [if_pos (by rfl), own_two hij] at w
                  split at w
                  · rename_i r' heq
                    split at heq
                    · cases d2 <;> first | (cases heq; exact w) | cases heq
                    · cases heq
                  · exact False.elim w
            · simp [okEs] at o3
          rcases es with _ | ⟨e1, _ | ⟨e2, _ | ⟨_, _⟩⟩⟩
          · cases o5
          · simp [okEs] at o3
          · simp only [okEs, Bool.and_eq_true] at o3
            have q2 := main_E C g k e2 X b h.kn o3.2.1
            refine ps_imp (z_parO h.kn.calm h.nd N1.1 N2.1 hij lx ly (new_val h o3.1 o5) q2.v (tame_star (L.tm a (by simp))) (tame_star (L.tm b (by simp))) sw) fun D σ H ⟨M, O, G, r, m, R, w⟩ => ⟨M, O, G, r, m, R, ?_⟩
            simp only [evS, evs] at w
            dsimp only
            cases e1v : ev g e1 r m with
            | ex _ _ _ =>
              rw [e1v] at w
              exact w
            | bad =>
              rw [e1v] at w
              exact w
            | ok d1 m1 =>
              rw [e1v] at w
              cases e2v : ev g e2 r m1 with
              | ex _ _ _ =>
                dsimp only [Res.bind] at w ⊢
                rw [e2v] at w ⊢
                exact w
              | bad =>
                dsimp only [Res.bind] at w ⊢
                rw [e2v] at w ⊢
                exact w
              | ok d2 m2 =>
                dsimp only [Res.bind] at w ⊢
                rw [e2v] at w ⊢
                dsimp only [Res.st] at w ⊢
                rw [if_pos (by rfl)] at w
                rcases par_or (r := r) hij (d1 := d1) (d2 := d2) with e | ⟨l, rfl, e⟩
                · rw [e] at w
                  exact False.elim w
                · rw [e] at w
                  exact w
          · simp [okEs] at o3
        · simp only [Bool.and_eq_true, decide_eq_true_eq] at o4
          obtain ⟨⟨rfl, rfl⟩, o5⟩ := o4
          rcases es with _ | ⟨e1, _ | ⟨e2, _ | ⟨_, _⟩⟩⟩
          · cases o5
          · cases o5
          · simp only [okEs, Bool.and_eq_true] at o3
            dsimp only at o5
            rw [Bool.and_eq_true] at o5
            refine ps_imp (z_parNN h.kn.calm h.nd N1.1 N2.1 hij lx ly (new_val h o3.1 o5.1) (new_val h o3.2.1 o5.2) (tame_star (L.tm a (by simp))) (tame_star (L.tm b (by simp))) sw) fun D σ H ⟨M, O, G, r, m, R, w⟩ => ⟨M, O, G, r, m, R, ?_⟩
            simp only [evS, evs] at w
            dsimp only
            cases e1v : ev g e1 r m with
            | ex _ _ _ =>
              rw [e1v] at w
              exact w
            | bad =>
              rw [e1v] at w
              exact w
            | ok d1 m1 =>
              rw [e1v] at w
              dsimp only [Res.bind] at w ⊢
              cases e2v : ev g e2 r m1 with
              | ex _ _ _ =>
                rw [e2v] at w
                exact w
              | bad =>
                rw [e2v] at w
                exact w
              | ok d2 m2 =>
                rw [e2v] at w
                dsimp only [Res.bind, Res.st] at w ⊢
                rw [if_pos (by rfl), own_both hij] at w
                split at w
                · rename_i r' heq
                  split at heq
                  · cases d1 <;> first | (cases d2 <;> first | (cases heq; exact w) | cases heq) | cases heq
                  · cases heq
                · exact False.elim w
          · simp [okEs] at o3
        · cases o4
      · cases o2
    · cases ok
theorem par_none (h : KnS C g k X) {n : Nat} {is : List Nat} {es : Exs} {own : List Nat} {ts vs : List Expr} {kt k2 : Nat} {pt pt2 pos : Pos} (ok : parN C X.env.scope is es own ts vs = true) : zS X (.Assign [.Tuple ts kt pt] (.Tuple vs k2 pt2) pos) (evS g n (.par is es own)) := by
  unfold parN at ok
  simp only [Bool.and_eq_true, decide_eq_true_eq, List.isEmpty_iff] at ok
  obtain ⟨⟨⟨⟨rfl, o1⟩, o2⟩, o3⟩, o4⟩ := ok
  have L := main_L C g k es X _ h.kn o4
  refine zs_of (z_unp h.kn.calm h.nd (tg_of h o2) (f_tup (k := k2) (pos := pt2) L.a fun r m ds m' e => by rw [evs_len es r m ds m' e]; exact o3) (sw_tup fun n p z => nomatch z) (swap_none h o1)) fun r m => ?_
  simp only [evS]
  cases evs g es r m with
  | ok ds m1 => rfl
  | ex _ _ _ => rfl
  | bad => rfl
end

section
variable {C : Cc} {g : Mi.Env0} {k : Nat} {X : Cx}
theorem par_three (h : KnS C g k X) {n : Nat} {is : List Nat} {es : Exs} {own : List Nat} {ts vs : List Expr} {kt k2 : Nat} {pt pt2 pos : Pos} (ok : parT C X.env.scope is es own ts vs = true) : zS X (.Assign [.Tuple ts kt pt] (.Tuple vs k2 pt2) pos) (evS g n (.par is es own)) := by
  unfold parT at ok
  split at ok
  · rename_i x px y py z pz
    rw [Bool.and_eq_true, Bool.and_eq_true] at ok
    obtain ⟨⟨o0, o1⟩, o2⟩ := ok
    rw [List.isEmpty_iff] at o0
    subst o0
    split at o2
    · rename_i i j l
      simp only [Bool.and_eq_true] at o2
      obtain ⟨⟨⟨n1, n2⟩, n3⟩, o3⟩ := o2
      have hl : vs.length = 3 := by
        simp only [Bool.and_eq_true, decide_eq_true_eq] at o1
        exact o1.1.1.2
      rcases vs with _ | ⟨a, _ | ⟨b, _ | ⟨c, _ | ⟨_, _⟩⟩⟩⟩ <;> first | (cases hl; done) | skip
      have L := main_L C g k es X _ h.kn o3
      obtain ⟨sw, lx, ly, lz, hxy, hxz, hyz⟩ := swap_three (kt := kt) (k2 := k2) (pt := pt) (pt2 := pt2) h (L.tm a (by simp)) (L.tm b (by simp)) (L.tm c (by simp)) o1
      have N1 := h.nm n1
      have N2 := h.nm n2
      have N3 := h.nm n3
      have ne : ∀ {i j : Nat} {x y : Str}, X.N[i]? = some x → X.N[j]? = some y → x ≠ y → i ≠ j := fun {i j x y} h1 h2 h3 z => by
        subst z
        exact h3 (Option.some.inj (h1.symm.trans h2))
      exact zs_of (z_par3 h.kn.calm h.nd N1.1 N2.1 N3.1 (ne N1.1 N2.1 hxy) (ne N1.1 N3.1 hxz) (ne N2.1 N3.1 hyz) lx ly lz L.a sw) fun r m => by simp only [evS, ownAll]
    · cases o2
  · cases ok
end
mutual
theorem main_S (C : Cc) (g : Mi.Env0) (k n : Nat) : ∀ (s : Stm) (X : Cx) (ast : Stmt), KnS C g k X → okS C X.env.scope s ast = true → zS X ast (evS g n s)
  | .set i e, X, ast, h, ok => by
    unfold okS at ok
    split at ok
    · simp only [Bool.and_eq_true] at ok
      exact zs_of (z_set (asg_val h (h.nm ok.1) ok.2)) fun r m => by simp only [evS]
    · cases ok
  | .seto i e, X, ast, h, ok => by
    unfold okS at ok
    split at ok
    · simp only [Bool.and_eq_true] at ok
      exact zs_of (z_seto (asg_new h (h.nm ok.1.1) ok.1.2 ok.2)) fun r m => by simp only [evS] <;> rfl
    · cases ok
  | .par is es own, X, ast, h, ok => by
    unfold okS at ok
    split at ok
    · rw [Bool.or_eq_true, Bool.or_eq_true] at ok
      exact ok.elim (fun ok => ok.elim (par_two h) (par_none h)) (par_three h)
    · cases ok
  | .unp is e, X, ast, h, ok => by
    unfold okS at ok
    split at ok
    · simp only [Bool.and_eq_true, Bool.not_eq_true'] at ok
      obtain ⟨⟨o1, o2⟩, o3⟩ := ok
      exact zs_of (z_unp h.kn.calm h.nd (tg_of h o1) (main_E C g k e X _ h.kn o3).v (sw_tup fun n p z => nomatch z) (stores_none o2)) fun r m => by simp only [evS] <;> rfl
    · cases ok
  | .app i e, X, ast, h, ok => by
    unfold okS at ok
    split at ok
    · simp only [Bool.and_eq_true, decide_eq_true_eq] at ok
      obtain ⟨⟨⟨⟨⟨rfl, o1⟩, o2⟩, o3⟩, o4⟩, o5⟩ := ok
      have q := main_E C g k e X _ h.kn o5
      exact zs_of (z_app (var_of h o1 o2 o3) q.v rfl o4 (tame_star q.tm)) fun r m => by simp only [evS] <;> rfl
    · cases ok
  | .ext i e, X, ast, h, ok => by
    unfold okS at ok
    split at ok
    · simp only [Bool.and_eq_true, decide_eq_true_eq] at ok
      obtain ⟨⟨⟨⟨⟨rfl, o1⟩, o2⟩, o3⟩, o4⟩, o5⟩ := ok
      have q := main_E C g k e X _ h.kn o5
      exact zs_of (z_ext (var_of h o1 o2 o3) q.x rfl o4 (tame_star q.tm)) fun r m => by simp only [evS] <;> rfl
    · cases ok
  | .seti i ie e, X, ast, h, ok => by
    unfold okS at ok
    split at ok
    · simp only [Bool.and_eq_true, Bool.not_eq_true'] at ok
      obtain ⟨⟨⟨⟨o1, o2⟩, o3⟩, o4⟩, o5⟩ := ok
      have q := main_E C g k e X _ h.kn o5
      have qi := main_E C g k ie X _ h.kn o4
      refine zs_of (z_seti (var_of h o1 o2 o3) qi.v (fun l u t q z => ?_) q.v (by cases ‹Expr› <;> rfl)) fun r m => by simp only [evS] <;> rfl
      have := qi.tm
      rw [z] at this
      cases this
    · cases ok
  | .popa i j e, X, ast, h, ok => by
    unfold okS at ok
    split at ok
    · simp only [Bool.and_eq_true, decide_eq_true_eq, bne_iff_ne, ne_eq] at ok
      obtain ⟨⟨⟨⟨⟨⟨⟨⟨⟨⟨⟨rfl, rfl⟩, hij⟩, o1⟩, o2⟩, o3⟩, o4⟩, o5⟩, o6⟩, o7⟩, o8⟩, o9⟩ := ok
      have q := main_E C g k e X _ h.kn o9
      exact zs_of (z_popa hij (var_of h o1 o2 o3) (var_of h o4 o5 o6) q.v rfl o7 rfl o8 (tame_star q.tm)) fun r m => by simp only [evS] <;> rfl
    · cases ok
  | .spoil2 _ _ _, X, ast, h, ok => by
    unfold okS at ok
    cases ok
  | .setr i c e, X, ast, h, ok => by
    unfold okS at ok
    split at ok
    · simp only [Bool.and_eq_true, decide_eq_true_eq] at ok
      obtain ⟨⟨⟨⟨rfl, o1⟩, o2⟩, o3⟩, o4⟩ := ok
      have q := main_E C g k e X _ h.kn o4
      exact zs_of (z_setr (var_of h o1 o2 o3) pe_int (fun l u t q z => nomatch z) q.v (by cases ‹Expr› <;> rfl)) fun r m => by simp only [evS] <;> rfl
    · cases ok
  | .setrp i c j e, X, ast, h, ok => by
    unfold okS at ok
    split at ok
    · simp only [Bool.and_eq_true, decide_eq_true_eq, Bool.not_eq_true'] at ok
      obtain ⟨⟨⟨⟨⟨⟨rfl, o1⟩, o2⟩, o3⟩, o4⟩, o5⟩, o6⟩ := ok
      have q := main_E C g k e X _ h.kn o6
      exact zs_of (z_setrp h.kn.calm h.nd (var_of h o1 o2 o3) pe_int (fun l u t q z => nomatch z) (h.nm o4) q.v (stores_none o5)) fun r m => by simp only [evS] <;> rfl
    · cases ok
  | .drop e, X, ast, h, ok => by
    unfold okS at ok
    split at ok
    · simp only [Bool.and_eq_true, Bool.not_eq_true'] at ok
      have q := main_E C g k e X _ h.kn ok.2
      refine zs_of (z_drop q.v ?_) fun r m => by simp only [evS]
      rename_i v _
      have o := ok
      cases v <;> first | rfl | skip
      · cases o.1
      · have z := o.2
        unfold okE at z
        cases e <;> first | (cases z; done) | (rename_i k _; cases k <;> cases z)
      · have z := o.2
        unfold okE at z
        cases e <;> first | (cases z; done) | (rename_i k _; cases k <;> cases z)
    · cases ok
  | .spoil e path c, X, ast, h, ok => by
    unfold okS at ok
    split at ok
    · simp only [Bool.and_eq_true, decide_eq_true_eq] at ok
      obtain ⟨⟨⟨⟨rfl, rfl⟩, o1⟩, o2⟩, o3⟩ := ok
      obtain ⟨f, es, rfl, hp, hb⟩ := sp_of h o3
      obtain ⟨cv, hc⟩ := cst_pe (X := X) o1
      exact zs_of (z_spoil (cc := .none) hp hc (base_ok hb) o2 rfl) fun r m => by simp only [evS] <;> rfl
    · cases ok
  | .cond c a b, X, ast, h, ok => by
    unfold okS at ok
    split at ok
    · simp only [Bool.and_eq_true] at ok
      exact zs_of (z_cond (main_E C g k c X _ h.kn ok.1.1).t (main_Ss C g k n a X _ h ok.1.2) (main_Ss C g k n b X _ h ok.2)) fun r m => by simp only [evS]
    · cases ok
  | .for_ tg ik its b, X, ast, h, ok => by
    unfold okS at ok
    split at ok
    · simp only [Bool.and_eq_true] at ok
      obtain ⟨⟨⟨o1, o2⟩, o3⟩, o4⟩ := ok
      have qi := it_oks h.kn (its := its) (fun as q => main_L C g k its X as h.kn q) o3 (fun z => by rcases z with rfl | rfl <;> exact o2) (main_1 C g k its X h.kn)
      exact zs_of (z_for h.po h.kn.calm h.nd qi.1 (tg_of h o1) (main_Ss C g k n b X _ h o4) qi.2) fun r m => by simp only [evS] <;> rfl
    · cases ok
  | .while_ c b, X, ast, h, ok => by
    unfold okS at ok
    split at ok
    · simp only [Bool.and_eq_true] at ok
      exact zs_of (z_while h.po (main_E C g k c X _ h.kn ok.1).t (main_Ss C g k n b X _ h ok.2) n) fun r m => by simp only [evS]
    · cases ok
  | .ret e, X, ast, h, ok => by
    unfold okS at ok
    split at ok
    · exact zs_of (z_ret (main_E C g k e X _ h.kn ok).v) fun r m => by simp only [evS]
    · cases ok
  | .retr es, X, ast, h, ok => by
    unfold okS at ok
    split at ok
    · simp only [Bool.and_eq_true, decide_eq_true_eq] at ok
      exact zs_of (z_retr (main_L C g k es X _ h.kn ok.2).a fun r m ds m' e => by rw [evs_len es r m ds m' e]; exact ok.1) fun r m => by simp only [evS]
    · cases ok
  | .retN, X, ast, h, ok => by
    unfold okS at ok
    split at ok
    · exact zs_of z_retN fun r m => by simp only [evS]
    · cases ok
  | .raise c es, X, ast, h, ok => z_false fun r m => by
    simp only [evS]
    cases evs g es r m with
    | ok ds m1 => exact .inl ⟨_, _, _, rfl⟩
    | ex a b c => exact .inl ⟨_, _, _, rfl⟩
    | bad => exact .inr rfl
  | .frz _, X, ast, h, ok => by
    unfold okS at ok
    cases ok
theorem main_Ss (C : Cc) (g : Mi.Env0) (k n : Nat) : ∀ (s : Stms) (X : Cx) (ast : List Stmt), KnS C g k X → okSs C X.env.scope s ast = true → zSs X ast (evSs g n s)
  | .nil, X, ast, h, ok => by
    unfold okSs at ok
    split at ok
    · exact zss_of z_nil fun r m => by simp only [evSs]
    · cases ok
  | .cons s ss, X, ast, h, ok => by
    unfold okSs at ok
    cases hf : frzT s with
    | true =>
      rw [hf, if_pos rfl] at ok
      have q := main_Ss C g k n ss X ast h ok
      cases s <;> first | (cases hf; done) | skip
      rename_i i
      refine pss_imp q fun D σ H ⟨M, O, G, r, m, R, w⟩ => ?_
      simp only [evSs, evS] at w
      cases e : r[i]? with
      | none =>
        rw [e] at w
        exact False.elim w
      | some sl =>
        rw [e] at w
        cases sl with
        | un => exact False.elim w
        | val _ => exact False.elim w
        | own ds => exact ⟨M, offAt O i, G, _, m, R.frz e, w.grow ⟨fun a o e1 e2 e3 => ⟨e1, e2, fun j z => by
            unfold offAt at z
            split at z
            · cases z
            · exact e3 j z⟩, fun _ _ z => z⟩⟩
    | false =>
      rw [hf, if_neg Bool.false_ne_true] at ok
      cases h2 : sp2T s with
      | true =>
        rw [h2, if_pos rfl, Bool.and_eq_true] at ok
        obtain ⟨ok1, ok2⟩ := ok
        unfold okSp2 at ok1
        split at ok1
        · simp only [Bool.and_eq_true, decide_eq_true_eq] at ok1
          obtain ⟨⟨⟨⟨⟨⟨⟨⟨⟨o1, rfl⟩, o2⟩, o3⟩, o4⟩, rfl⟩, rfl⟩, o5⟩, o6⟩, o7⟩ := ok1
          unfold okSp at o7
          split at o7
          · dsimp only at o7
            split at o7
            · simp only [Bool.and_eq_true, decide_eq_true_eq, Bool.not_eq_true'] at o7
              obtain ⟨⟨⟨h1, h2⟩, h3⟩, h4⟩ := o7
              rename_i x p as pos
              have L := main_L C g k _ X _ h.kn h3
              cases as with
              | nil => cases h4
              | cons a r =>
                obtain ⟨cv, hc⟩ := cst_pe (X := X) o5
                have hpl : (backTo pos (starEach r X.env)).any (·.1) = false := by
                  have := L.pl pos
                  rw [tame_star (L.tm a (by simp))] at this
                  simpa [backTo] using this
                exact zss_of (z_spoil2 (cc := .none) h.nd (h.nm o1) (var_of h o2 o3 o4) (f_sc h.kn h1 h2 L.a (tame_star (L.tm a (by simp))) hpl) rfl hc o6 rfl (main_Ss C g k n ss X _ h ok2)) fun r m => by simp only [evSs, evS] <;> rfl
            · cases o7
          · cases o7
        · cases ok1
      | false =>
      rw [h2, if_neg Bool.false_ne_true] at ok
      split at ok
      · rw [Bool.and_eq_true] at ok
        exact zss_of (z_cons (main_S C g k n s X _ h ok.1) (main_Ss C g k n ss X _ h ok.2)) fun r m => by simp only [evSs] <;> rfl
      · cases ok
end
end Mi

set_option linter.all false
set_option maxRecDepth 100000
set_option maxHeartbeats 8000000
/-! Mi18: a def runs as its tree says; the law's end. -/
namespace Mi
open PySem PySem.Spec PyProof.Rows L2

theorem GrowS.plain {G G' : List Addr} {H H' : Hp} {O' : Nat → Option Addr} (g : GrowS (fun _ => none) G H O' G' H') : Grow G H G' H' :=
  ⟨fun a o h n => let ⟨h1, h2, _⟩ := g.keep a o h n (fun _ z => nomatch z); ⟨h1, h2⟩, g.pre⟩
section
variable {K : PySem.W.Frag} {M : Addr → Prop} {O : Nat → Option Addr} {G : List Addr} {σ : L2.St} {H : Hp} {r : List Slot} {m : Mu}
theorem bad_flat {a : Addr} (h : BadF M G a) : Bad M O G a := h.elim .inl fun z => z.elim (fun z => .inr (.inl z)) fun ⟨_, z⟩ => nomatch z
/-- at a def's end its own lists are nobody's -/
theorem Rep.flat (R : Rep K M O G σ H r m) : RepF K M G H m where
  dom := R.dom
  len := rfl
  val := fun i d h => by simp at h
  own := fun i d h => by simp at h
  ownU := fun i j a h => by cases h
  ownH := fun i a h => by cases h
  st := fun n ds e => let ⟨a, xs, h1, h2, h3⟩ := R.st n ds e; ⟨a, xs, h1, h2, h3.mono fun a => bad_flat⟩
  stl := R.stl
  stU := R.stU
  stM := R.stM
/-- at a def's start -/
theorem Rep.start {N : List Str} {ds : List D} {vs : List V} {fn : Fn} (F : RepF K M G H m) (p : Rps K (BadF M G) G H ds vs) (h1 : fn.many = N.length) (h2 : fn.pars = ds.length) : Rep K M (fun _ => none) G (L2.start N vs) H (startS fn ds) m where
  dom := F.dom
  len := by
    unfold startS L2.start
    rw [List.length_append, List.length_append, List.length_map, List.length_map, List.length_replicate, List.length_replicate, p.length, h1, h2, p.length]
  val := fun i d e => by
    unfold startS at e
    unfold L2.start
    by_cases hi : i < ds.length
    · rw [List.getElem?_append_left (by rw [List.length_map]; exact hi), List.getElem?_map, List.getElem?_eq_getElem hi] at e
      cases e
      obtain ⟨v, q1, q2⟩ := p.get (List.getElem?_eq_getElem hi)
      have hv : i < vs.length := (List.getElem?_eq_some_iff.mp q1).1
      refine ⟨v, ?_, q2⟩
      rw [List.getElem?_append_left (by rw [List.length_map]; exact hv), List.getElem?_map, q1]
      rfl
    · rw [List.getElem?_append_right (by rw [List.length_map]; omega)] at e
      rw [List.getElem?_replicate] at e
      split at e <;> cases e
  own := fun i d e => by
    unfold startS at e
    by_cases hi : i < ds.length
    · rw [List.getElem?_append_left (by rw [List.length_map]; exact hi), List.getElem?_map, List.getElem?_eq_getElem hi] at e
      cases e
    · rw [List.getElem?_append_right (by rw [List.length_map]; omega)] at e
      rw [List.getElem?_replicate] at e
      split at e <;> cases e
  ownU := fun i j a h => by cases h
  ownH := fun i a h => by cases h
  st := F.st
  stl := F.stl
  stU := F.stU
  stM := F.stM
end
/-- what is known of a text, at a depth of calls -/
structure Kb (P : Program) (w : World) (K : PySem.W.Frag) (mg : Str → Option Value) (base : Heap) (C : Cc) (g : Mi.Env0) (k : Nat) : Prop where
  nd : C.N.Nodup
  blt : ∀ x ∈ bltNames, mg x = none
  sm : ∃ mm, base.Ns sysModules mm
  con : ∀ (i : Nat) (x : Str) (d : D), C.gls[i]? = some x → g.consts[i]? = some d → ∃ u v, mg x = some u ∧ RelV v u ∧ ∀ B G H, Rp K B G H d v
  fn : ∀ (f : Nat) (x : Str), C.fns[f]? = some x → ∃ fa fd ps, FOk P w K mg base k (kwsOf C f) x (g.call f) fa fd ps
theorem fok_of {P : Program} {w : World} {K : PySem.W.Frag} {mg : Str → Option Value} {base : Heap} {x qual : Str} {st : Stmt} {f : Addr} {fd : FuncData} (F : Fun K x qual st f fd) {ps : List Str} {C : Cc} {fs : List Fn} {consts : List D} {n k i : Nat} {fn : Fn} {kws : List (Nat × List Str × List Nat)}
    (S : FnScope C.N ps (defScope st)) (hmg : mg x = some (.ref f)) (hfs : fs[i]? = some fn) (hp : fn.pars = ps.length) (hm : fn.many = C.N.length) (ok : okSs C (defScope st) fn.body (defBody st) = true)
    (hpos : ∀ us : List Value, us.length = ps.length → bindArgs fd ⟨us, []⟩ = pure (ps.zip us))
    (hkw : ∀ q ∈ kws, ∀ us ws : List Value, us.length = q.1 → ws.length = q.2.1.length → (permL (us ++ ws) q.2.2).length = ps.length → bindArgs fd ⟨us, q.2.1.zip ws⟩ = pure (ps.zip (permL (us ++ ws) q.2.2)))
    (kb : Kb P w K mg base C ⟨consts, callF fs consts n k⟩ k) : FOk P w K mg base (k + 1) kws x (callF fs consts n (k + 1) i) f fd ps := by
  have hlen : ∀ ds m, callF fs consts n (k + 1) i ds m ≠ .bad → ds.length = ps.length := fun ds m h => by
    simp only [callF, hfs] at h
    by_cases hl : ds.length = fn.pars
    · rw [hl, hp]
    · rw [if_neg hl] at h
      exact absurd rfl h
  refine ⟨hmg, F.kp, hpos, hkw, hlen, fun A outer s H args us vs ds G m M Q hr hg e0 hb rv RF p wt => ?_⟩
  obtain ⟨oc, od, kV, doc, pm, an, cdv, ct, osl, rfl, lk, hcd⟩ := F.ex
  have hl : ds.length = ps.length := hlen ds m fun z => by
    rw [z] at wt
    exact wt
  have hv : vs.length = ps.length := by rw [← p.length, hl]
  refine LamX.run_ofS lk hcd S hr e0 hb rv hv fun hr2 => ?_
  have kn : KnS C ⟨consts, callF fs consts n k⟩ k (cxOf CX0 P w K mg base C.N qual (defScope st) f cdv A outer s H E0) :=
    ⟨⟨rfl, kb.nd, rfl, hr2, hg, kb.blt, kb.sm, kb.con, kb.fn⟩, fun _ => rfl, PassesOwn.leaving, S.kind⟩
  refine ⟨_, main_Ss C ⟨consts, callF fs consts n k⟩ k n fn.body _ _ kn ok, M, fun _ => none, G, startS fn ds, m, RF.start p hm (by rw [hp, hl]), ?_⟩
  have ec : callF fs consts n (k + 1) i ds m = endF (evSs ⟨consts, callF fs consts n k⟩ n fn.body (startS fn ds) m) := by
    simp only [callF, hfs]
    rw [if_pos (by rw [hl, hp])]
  rw [ec] at wt
  cases e : evSs ⟨consts, callF fs consts n k⟩ n fn.body (startS fn ds) m with
  | nx r1 m1 =>
    rw [e] at wt
    exact fun O' G' σ' H' gg R' => wt .non H' G' gg.plain R'.flat .non
  | rt d m1 =>
    rw [e] at wt
    exact fun v r' σ' O' G' H' gg R' pv => wt v H' G' gg.plain R'.flat (pv.mono fun a => bad_flat)
  | ex _ _ _ =>
    rw [e] at wt
    exact wt
  | bad =>
    rw [e] at wt
    exact wt
/-- a def that is not followed -/
theorem fok_bad {P : Program} {w : World} {K : PySem.W.Frag} {mg : Str → Option Value} {base : Heap} {x qual : Str} {st : Stmt} {f : Addr} {fd : FuncData} (F : Fun K x qual st f fd) {kws : List (Nat × List Str × List Nat)} {cal : List D → Mu → Res D} {k : Nat} {ps : List Str}
    (hmg : mg x = some (.ref f)) (hpos : ∀ us : List Value, us.length = ps.length → bindArgs fd ⟨us, []⟩ = pure (ps.zip us))
    (hkw : ∀ q ∈ kws, ∀ us ws : List Value, us.length = q.1 → ws.length = q.2.1.length → (permL (us ++ ws) q.2.2).length = ps.length → bindArgs fd ⟨us, q.2.1.zip ws⟩ = pure (ps.zip (permL (us ++ ws) q.2.2)))
    (hb : ∀ ds m, cal ds m = .bad) : FOk P w K mg base k kws x cal f fd ps :=
  ⟨hmg, F.kp, hpos, hkw, fun ds m h => absurd (hb ds m) h, fun A outer s H args us vs ds G m M Q hr hg e0 hbt rv RF p wt => by
    rw [hb] at wt
    exact False.elim wt⟩

/-! ### the law itself -/
section
variable {P : Program} {w : World} {K : PySem.W.Frag} {mg mb : Str → Option Value} {a fa : Addr} {s : Shared} {vs : List Value} {ns : List Int}
/-- nothing stands in the small heap but the script (or nothing at all) -/
structure Lone (P : Program) (w : World) (K : PySem.W.Frag) (a : Addr) (ns : List Int) (s : Shared) (H : Hp) : Prop where
  only : ∀ b, H b = none ∨ b = a ∧ K.lookup a = none ∧ ∃ o, H b = some (.frz o (.lst (ns.map V.int)))
  ok : HOk P w H s.heap
  sc : ScL K H a (ns.map V.int)
  lst : ∀ o, H a = some o → ∃ us, s.heap.get? a = some { cls := .type "list", data := .seq us }
theorem Lone.at (L : Lone P w K a ns s H) {b : Addr} {o : Obj} (hk : K.lookup b = some o) : H b = none := by
  rcases L.only b with z | ⟨rfl, z, _⟩
  · exact z
  · rw [z] at hk
    cases hk
theorem Lone.dict (L : Lone P w K a ns s H) {b : Addr} {o : Obj} {es : Array DictEntry} {ep : Nat} (h : s.heap.get? b = some o) (d : o.data = .dict es ep) : H b = none := by
  cases q : H b with
  | none => rfl
  | some u =>
    rcases L.only b with z | ⟨rfl, _, _⟩
    · rw [q] at z
      cases z
    · obtain ⟨us, e⟩ := L.lst u q
      rw [h] at e
      cases e
      cases d
theorem Lone.dir (L : Lone P w K a ns s H) {b : Addr} {mm : Str → Option Value} (h : s.heap.Ns b mm) : (hidT s.heap H).Ns b mm := by
  obtain ⟨o, es, ep, e, d, r⟩ := h
  exact ⟨o, es, ep, hidT_get e (L.dict e d), d, r⟩
theorem Lone.env (L : Lone P w K a ns s H) (KX : K.In s.heap) (hns : s.heap.Ns mainGlobals mg) (hb : s.heap.Ns builtinsNs mb) (hbb : ∀ x : Str, x ≠ "__name__" → mb x = bootBuiltins x) (hlim : s.heap.NoLimit) (hg : s.gens = #[]) :
    L2.Env0 P w K mg (hidT s.heap H) callerA [] s H := by
  have hK : K.In (hidT s.heap H) := fun b o e => hidT_get (KX b o e) (L.at e)
  have hN : (hidT s.heap H).NoLimit := by
    obtain ⟨mc, h1, h2⟩ := hlim
    exact ⟨mc, L.dir h1, h2⟩
  exact {
    frames := rfl
    mod := ⟨hK, L.dir hns, ⟨mb, L.dir hb, hbb⟩, hN⟩
    bs := fun b o e => of_hidT e
    bsz := by rw [hidT_size]; exact Nat.le_refl _
    funs := trivial
    frf := fun b z => by cases z
    hok := L.ok
    bare := .of_eq hg }
theorem Lone.old (L : Lone P w K a ns s H) {H' : Hp} {s' : Shared} (un : Un (frs []) [] H H' s.heap s'.heap) (ok : HOk P w H' s'.heap) : OldK s.heap s'.heap := by
  refine OldK.of_keep fun b o e => ?_
  rcases L.only b with z | ⟨_, _, o2, z⟩
  · exact un.keep b o e z (fun y => by cases y) (fun y => by cases y)
  · have z' := un.frzs b o2 _ z
    have p1 := (L.ok b _ z).1
    have p2 := (ok b _ z').1
    rw [e] at p1
    cases p1
    exact p2
theorem Lone.make (KX : K.In s.heap) (ha : s.heap.get? a = some { cls := .type "list", data := .seq vs.toArray }) (hi : IntsAre vs ns) (hl : ns.length ≤ sizeLine) : ∃ H : Hp, Lone P w K a ns s H := by
  have rv := vals_ints hi
  have le := hi.length
  cases hk : K.lookup a with
  | some o =>
    have e := KX a o hk
    rw [ha] at e
    cases e
    refine ⟨fun _ => none, fun b => .inl rfl, fun b u z => (by cases z), .inr ⟨_, vs.toArray, _, hk, rfl, rfl, rfl, ?_, ?_⟩, fun o z => (by cases z)⟩
    · rw [List.size_toArray, le]
      exact hl
    · rw [List.toList_toArray]
      exact rv
  | none =>
    have here : (fun b => if b = a then some (HO.frz { cls := .type "list", data := .seq vs.toArray } (.lst (ns.map V.int))) else none : Hp) a = some (.frz { cls := .type "list", data := .seq vs.toArray } (.lst (ns.map V.int))) := if_pos rfl
    refine ⟨fun b => if b = a then some (.frz { cls := .type "list", data := .seq vs.toArray } (.lst (ns.map V.int))) else none, fun b => ?_, fun b u z => ?_, .inl ⟨_, here⟩, fun o z => ⟨_, ha⟩⟩
    · by_cases q : b = a
      · subst q
        exact .inr ⟨rfl, hk, _, here⟩
      · exact .inl (if_neg q)
    · by_cases q : b = a
      · subst q
        have z := here.symm.trans z
        cases z
        refine ⟨ha, ?_, vs, _, rv, ha⟩
        rw [List.length_map]
        exact hl
      · have z := (if_neg q).symm.trans z
        cases z
/-- the law's call -/
theorem law_run2 (KX : K.In s.heap) (hns : s.heap.Ns mainGlobals mg) (hb : s.heap.Ns builtinsNs mb) (hbb : ∀ x : Str, x ≠ "__name__" → mb x = bootBuiltins x) (hlim : s.heap.NoLimit) (hg : s.gens = #[])
    (ha : s.heap.get? a = some { cls := .type "list", data := .seq vs.toArray }) (hi : IntsAre vs ns) (hl : ns.length ≤ sizeLine) {k : Nat} (hr : Room k callerA) {kws : List (Nat × List Str × List Nat)} {x : Str} {cal : List D → Mu → Res D}
    (hsm : ∃ mm, s.heap.Ns sysModules mm) (F : ∀ base : Heap, K.In base → base.Ns mainGlobals mg → (∃ mm, base.Ns sysModules mm) → ∃ fd ps, FOk P w K mg base k kws x cal fa fd ps) {m' : Mu} (hres : cal [.scr ns] [] = .ok (.bl true) m') :
    codeAny (model P w) callerA (.call (.ref fa) ⟨[.ref a], []⟩) (fun r s' => r = .ok (.ret (.bool true)) ∧ OldK s.heap s'.heap ∧ s'.os = s.os ∧ AllBare s'.gens) s := by
  obtain ⟨H, L⟩ := Lone.make (P := P) (w := w) KX ha hi hl
  have e0 := L.env KX hns hb hbb hlim hg
  obtain ⟨fd, ps, F0⟩ := F _ e0.mod.kin e0.mod.glob (let ⟨mm, h⟩ := hsm; ⟨mm, L.dir h⟩)
  have RF : RepF K (fun _ => False) [] H [] :=
    ⟨fun _ z => z.elim, rfl, fun i d h => (by simp at h), fun i d h => (by simp at h), fun i j a h => (by cases h), fun i a h => (by cases h), fun n ds h => (by simp at h), rfl, List.nodup_nil, fun a h => (by cases h)⟩
  have hlen : [D.scr ns].length = ps.length := F0.len _ [] (by rw [hres]; exact fun z => nomatch z)
  refine codeAny_mono (F0.run callerA [] s H ⟨[.ref a], []⟩ [.ref a] [.ref a] [.scr ns] [] [] (fun _ => False) (fun v _ => v = .bl true) hr rfl e0 (.of_eq (F0.pos [.ref a] hlen)) (.cons rfl .nil) RF (.cons (.scr L.sc) .nil) ?_) fun r s' h => ?_
  · rw [hres]
    exact fun v H' G' _ _ p => by
      cases p
      rfl
  · rcases r with e | fl
    · exact False.elim h
    · cases fl <;> first | exact False.elim h | skip
      obtain ⟨v, H', os, bare, un, ok', rv, q⟩ := h
      have q : v = .bl true := q
      subst q
      have ru : _ = Value.bool true := rv
      rw [ru]
      exact ⟨rfl, L.old un ok', os, bare⟩
end
end Mi

set_option linter.all false
set_option maxRecDepth 100000
set_option maxHeartbeats 8000000
/-! Mi19: a whole text. -/
namespace Mi
open PySem PySem.Spec PyProof.Rows L2

/-- what a text is: its trees, its names -/
structure Txt0 where
  fs : List Fn
  dn : List Str
  gn : List Str
  cn : List Str
  kwl : List (Nat × Nat × List Str × List Nat)
  consts : List D
abbrev Txt0.cc (T : Txt0) (N : List Str) : Cc := ⟨N, T.dn, T.gn, T.cn, T.kwl⟩
def badBody : Stms := .cons (.ret (.view 0)) .nil
abbrev PosOk (x : Str) (st : Stmt) (ps : List Str) : Prop := ∀ (kV doc pm : Value) (an : Option Addr) (cdv ct : Value) (us : List Value), us.length = ps.length → bindArgs (PySem.W.fnOf x x (defArgs st) (defBody st) (defScope st) .none kV doc pm an cdv ct) ⟨us, []⟩ = pure (ps.zip us)
abbrev KwOk (x : Str) (st : Stmt) (ps : List Str) (q : Nat × List Str × List Nat) : Prop := ∀ (kV doc pm : Value) (an : Option Addr) (cdv ct : Value) (us ws : List Value), us.length = q.1 → ws.length = q.2.1.length → (permL (us ++ ws) q.2.2).length = ps.length →
  bindArgs (PySem.W.fnOf x x (defArgs st) (defBody st) (defScope st) .none kV doc pm an cdv ct) ⟨us, q.2.1.zip ws⟩ = pure (ps.zip (permL (us ++ ws) q.2.2))
/-- what the text says of a def -/
structure Stat (T : Txt0) (i : Nat) (x : Str) (st : Stmt) (N ps : List Str) : Prop where
  sc : FnScope N ps (defScope st)
  tree : ∃ fn, T.fs[i]? = some fn ∧ fn.pars = ps.length ∧ fn.many = N.length ∧ okSs (T.cc N) (defScope st) fn.body (defBody st) = true
  pos : PosOk x st ps
  kw : ∀ q ∈ kwsOf (T.cc []) i, KwOk x st ps q
/-- .. and what stands behind the top -/
structure DefOk (K : PySem.W.Frag) (mg : Str → Option Value) (T : Txt0) (i : Nat) (x : Str) : Prop where
  ex : ∃ (st : Stmt) (fa : Addr) (fd : FuncData) (N ps : List Str), Stat T i x st N ps ∧ mg x = some (.ref fa) ∧ Fun K x x st fa fd
def AllIx (p : Nat → Str → Prop) : Nat → List Str → Prop
  | _, [] => True
  | i, x :: r => p i x ∧ AllIx p (i + 1) r
theorem allIx_get {p : Nat → Str → Prop} : ∀ {l : List Str} {i j : Nat} {x : Str}, AllIx p i l → l[j]? = some x → p (i + j) x
  | [], _, _, _, _, e => by simp at e
  | y :: r, i, 0, x, h, e => by
    simp at e
    subst e
    exact h.1
  | y :: r, i, j + 1, x, h, e => by
    have := allIx_get (j := j) (x := x) h.2 (by simpa using e)
    rw [show i + (j + 1) = i + 1 + j by omega]
    exact this
abbrev ConOk (K : PySem.W.Frag) (mg : Str → Option Value) (x : Str) (d : D) : Prop := ∃ u v, mg x = some u ∧ RelV v u ∧ ∀ B G H, Rp K B G H d v
def AllCon (K : PySem.W.Frag) (mg : Str → Option Value) : List Str → List D → Prop
  | x :: r, d :: s => ConOk K mg x d ∧ AllCon K mg r s
  | _, _ => True
theorem allCon_get {K : PySem.W.Frag} {mg : Str → Option Value} : ∀ {l : List Str} {ds : List D} {j : Nat} {x : Str} {d : D}, AllCon K mg l ds → l[j]? = some x → ds[j]? = some d → ConOk K mg x d
  | [], _, _, _, _, _, e, _ => by simp at e
  | _ :: _, [], _, _, _, _, _, e => by simp at e
  | y :: r, d' :: s, 0, x, d, h, e1, e2 => by
    simp at e1 e2
    subst e1 e2
    exact h.1
  | y :: r, d' :: s, j + 1, x, d, h, e1, e2 => allCon_get (j := j) h.2 (by simpa using e1) (by simpa using e2)
def AllNone (mg : Str → Option Value) : List Str → Prop
  | [] => True
  | x :: r => mg x = none ∧ AllNone mg r
theorem allNone_get {mg : Str → Option Value} : ∀ {l : List Str} {x : Str}, AllNone mg l → x ∈ l → mg x = none
  | _ :: _, x, h, m => by
    rcases List.mem_cons.mp m with e | e
    · rw [e]
      exact h.1
    · exact allNone_get h.2 e
theorem kwsOf_N {T : Txt0} {N : List Str} {i : Nat} : kwsOf (T.cc N) i = kwsOf (T.cc []) i := rfl
/-- every def, at every depth -/
theorem all_defs {P : Program} {w : World} {K : PySem.W.Frag} {mg : Str → Option Value} {base : Heap} {T : Txt0} {n : Nat} (hd : AllIx (DefOk K mg T) 0 T.dn) (hc : AllCon K mg T.gn T.consts) (hb : AllNone mg bltNames) (hsm : ∃ mm, base.Ns sysModules mm) :
    ∀ (k i : Nat) (x : Str), T.dn[i]? = some x → ∃ fa fd ps, FOk P w K mg base k (kwsOf (T.cc []) i) x (callF T.fs T.consts n k i) fa fd ps := by
  intro k
  induction k with
  | zero =>
    intro i x e
    have e' := allIx_get hd e
    rw [Nat.zero_add] at e'
    obtain ⟨st, fa, fd, N, ps, s, hm, F⟩ := e'.ex
    have pos := s.pos
    have kw := s.kw
    have F2 := F
    obtain ⟨oc, od, kV, doc, pm, an, cdv, ct, osl, rfl, lk, hcd⟩ := F.ex
    exact ⟨fa, _, ps, fok_bad F2 hm (pos kV doc pm an cdv ct) (fun q hq => kw q hq kV doc pm an cdv ct) fun _ _ => rfl⟩
  | succ k ih =>
    intro i x e
    have e' := allIx_get hd e
    rw [Nat.zero_add] at e'
    obtain ⟨st, fa, fd, N, ps, s, hm, F⟩ := e'.ex
    obtain ⟨fn, t1, t2, t3, t4⟩ := s.tree
    have pos := s.pos
    have kw := s.kw
    have F2 := F
    obtain ⟨oc, od, kV, doc, pm, an, cdv, ct, osl, rfl, lk, hcd⟩ := F.ex
    exact ⟨fa, _, ps, fok_of (C := T.cc N) F2 s.sc hm t1 t2 t3 t4 (pos kV doc pm an cdv ct) (fun q hq => kw q hq kV doc pm an cdv ct)
      ⟨s.sc.nd, fun x hx => allNone_get hb hx, hsm, fun j y d h1 h2 => allCon_get hc h1 h2, fun j y h => ih j y h⟩⟩
/-- what is needed behind the top -/
structure Behind (K : PySem.W.Frag) (mg : Str → Option Value) (T : Txt0) : Prop where
  defs : AllIx (DefOk K mg T) 0 T.dn
  cons : AllCon K mg T.gn T.consts
  none : AllNone mg bltNames
theorem walk_text {l : PySem.W.OpenLaw} {m k n iL : Nat} {q : Program} {loose : List Str} {XP : (Str → Option Value) → Heap → Prop} {YP : World → Heap → Prop} {d : DefRec} {K : Params → PySem.W.Frag} {T : Txt0}
    (hi : importsNone q = true) (hn : l.most = some m) (hn2 : m ≤ sizeLine) (hdf : d.params.defaults = []) (hr : Room k callerA) (hY : ∀ (w : World) (h : Heap), YP w h → (K w.params).In h) (hL : T.dn[iL]? = some d.name)
    (F : ∀ (w : World) (mg : Str → Option Value) (h : Heap), (K w.params).In h → h.Ns mainGlobals mg → XP mg h → Behind (K w.params) mg T)
    (hres : ∀ ns : List Int, ns.length ≤ m → ∃ m', callF T.fs T.consts n k iL [.scr ns] [] = .ok (.bl true) m') : PySem.W.WalkO q loose XP YP l.row.toRowW d [] (fun f vs => PySem.call f vs) := by
  refine Att.attach_call hn hdf fun w s₀ s mg mb fa o pm cd doc a vs ns G Y ho hd hcd hmg hobj hints hlen hg => ?_
  have KX := hY w _ Y
  have B := F w mg _ KX G.T.g G.X
  obtain ⟨m', e⟩ := hres ns hlen
  have key : ∀ base : Heap, (∃ mm, base.Ns sysModules mm) → ∃ fd ps, FOk l.prog w (K w.params) mg base k (kwsOf (T.cc []) iL) d.name (callF T.fs T.consts n k iL) fa fd ps := fun base hsm => by
    obtain ⟨fa', fd, ps, F0⟩ := all_defs (P := l.prog) (w := w) (base := base) (n := n) B.defs B.cons B.none hsm k iL d.name hL
    have := F0.at_.symm.trans hmg
    cases this
    exact ⟨fd, ps, F0⟩
  exact law_run2 KX G.T.g G.T.b G.T.builtins G.T.nolimit hg hobj hints (Nat.le_trans hlen hn2) hr (let ⟨mm, h⟩ := (G.T.seer hi).mods; ⟨mm, h.1⟩) (fun base _ _ h => key base h) e
section
variable {K : PySem.W.Frag} {mg : Str → Option Value} {h : Heap}
theorem con_int (KX : K.In h) (G : h.Ns mainGlobals mg) {x : Str} {i : Int} {t : Tok} (e : PySem.W.nsIn K mainGlobals x = some (some (.int i t))) : ConOk K mg x (.int i) := ⟨_, .int i, PySem.W.mg_of KX G e, ⟨t, rfl⟩, fun _ _ _ => .int i⟩
theorem con_str (KX : K.In h) (G : h.Ns mainGlobals mg) {x y : Str} {t : Tok} (e : PySem.W.nsIn K mainGlobals x = some (some (.str y t))) : ConOk K mg x (.str y) := ⟨_, .str y, PySem.W.mg_of KX G e, ⟨t, rfl⟩, fun _ _ _ => .str y⟩
theorem con_tup (KX : K.In h) (G : h.Ns mainGlobals mg) {x : Str} {a : Addr} {od : Option Addr} {its : Array Value} {n : Nat} {sl : Array (Option Value)} {ds : List D} {vs : List V} (e : PySem.W.nsIn K mainGlobals x = some (some (.ref a)))
    (l : K.lookup a = some ⟨.type "tuple", od, .seq its n, sl⟩) (hz : its.size ≤ sizeLine) (r : Vals vs its.toList) (p : ∀ B G H, Rps K B G H ds vs) : ConOk K mg x (.tup ds) :=
  ⟨_, .ref a, PySem.W.mg_of KX G e, rfl, fun B G H => .tup (.inr ⟨_, its, n, l, rfl, rfl, hz, r⟩) (p B G H)⟩
/-- items of a constant tuple: an int, a text -/
inductive Itm : D → V → Value → Prop
  | int (i : Int) (t : Tok) : Itm (.int i) (.int i) (.int i t)
  | str (x : Str) (t : Tok) : Itm (.str x) (.str x) (.str x t)
inductive Itms : List D → List V → List Value → Prop
  | nil : Itms [] [] []
  | cons {d : D} {v : V} {u : Value} {ds : List D} {vs : List V} {us : List Value} : Itm d v u → Itms ds vs us → Itms (d :: ds) (v :: vs) (u :: us)
theorem Itms.vals {ds : List D} {vs : List V} {us : List Value} (h : Itms ds vs us) : Vals vs us := by
  induction h with
  | nil => exact .nil
  | cons a _ ih =>
    refine .cons ?_ ih
    cases a <;> exact ⟨_, rfl⟩
theorem Itms.rps {ds : List D} {vs : List V} {us : List Value} (h : Itms ds vs us) (B : Addr → Prop) (G : List Addr) (H : Hp) : Rps K B G H ds vs := by
  induction h with
  | nil => exact .nil
  | cons a _ ih =>
    refine .cons ?_ ih
    cases a
    · exact .int _
    · exact .str _
theorem con_flat (KX : K.In h) (G : h.Ns mainGlobals mg) {x : Str} {a : Addr} {od : Option Addr} {its : Array Value} {n : Nat} {sl : Array (Option Value)} {ds : List D} {vs : List V} (e : PySem.W.nsIn K mainGlobals x = some (some (.ref a)))
    (l : K.lookup a = some ⟨.type "tuple", od, .seq its n, sl⟩) (hz : its.size ≤ 100) (r : Itms ds vs its.toList) : ConOk K mg x (.tup ds) := con_tup KX G e l (size100 hz) r.vals r.rps
theorem def_mk (KX : K.In h) (G : h.Ns mainGlobals mg) {T : Txt0} {i : Nat} {x : Str} {st : Stmt} {N ps : List Str} {f : Addr} {oc : Value} {od an : Option Addr} {osl : Array (Option Value)} {kV doc pm cdv ct : Value} (s : Stat T i x st N ps)
    (a : PySem.W.nsIn K mainGlobals x = some (some (.ref f))) (l : K.lookup f = some ⟨oc, od, .func (PySem.W.fnOf x x (defArgs st) (defBody st) (defScope st) .none kV doc pm an cdv ct), osl⟩) (c : PySem.W.codeIn K cdv x = true) (kp : PySem.W.keepIn K (.ref f) = true) : DefOk K mg T i x :=
  ⟨⟨st, f, _, N, ps, s, PySem.W.mg_of KX G a, fun_mk l c kp⟩⟩
end
end Mi

set_option linter.all false
set_option maxRecDepth 100000
set_option maxHeartbeats 4000000
/-! Mi20: plain laws of the small evaluation. -/
namespace Mi
open PySem PySem.Spec L2
section
variable {α β : Type} {g : Mi.Env0} {r : List Slot} {m : Mu} {n : Nat}
@[simp] theorem bind_ok' (a : α) (m : Mu) (f : α → Mu → Res β) : (Res.ok a m).bind f = f a m := id rfl
@[simp] theorem st_ok' (a : α) (m : Mu) (f : α → Mu → SRes) : (Res.ok a m).st f = f a m := id rfl
@[simp] theorem asB_ok (b : Bool) (m : Mu) : asB (.ok (.bl b) m) = .ok b m := id rfl
@[simp] theorem of_some (d : D) (m : Mu) : Res.of (some d) m = .ok d m := id rfl
@[simp] theorem ev_cst (c : Const) : ev g (.cst c) r m = .ok (cD c) m := by simp only [ev]
@[simp] theorem ev_var (i : Nat) : ev g (.var i) r m = match r[i]? with | some (.val d) => .ok d m | _ => .bad := by simp only [ev] <;> rfl
@[simp] theorem ev_glb (i : Nat) : ev g (.glb i) r m = .of g.consts[i]? m := by simp only [ev]
@[simp] theorem ev_tup (es : Exs) : ev g (.tup es) r m = (evs g es r m).bind fun ds m => .ok (.tup ds) m := by simp only [ev]
@[simp] theorem ev_lst (es : Exs) : ev g (.lst es) r m = (evs g es r m).bind fun ds m => .ok (.lst ds) m := by simp only [ev]
@[simp] theorem ev_op (o : Operator) (a b : Ex) : ev g (.op o a b) r m = (vx r a m (ev g a r m)).bind fun x m => (vx r b m (ev g b r m)).bind fun y m => .of (binop o x y) m := by simp only [ev]
@[simp] theorem ev_neg (a : Ex) : ev g (.neg a) r m = (ev g a r m).bind fun x m => .of (negop x) m := by simp only [ev]
@[simp] theorem ev_cmp (o : CmpOp) (a b : Ex) : ev g (.cmp o a b) r m = (vx r a m (ev g a r m)).bind fun x m => (vx r b m (ev g b r m)).bind fun y m => .of ((cmpop o x y).map .bl) m := by simp only [ev]
@[simp] theorem ev_cmp2 (o p : CmpOp) (a b c : Ex) : ev g (.cmp2 o p a b c) r m = (ev g a r m).bind fun x m => (ev g b r m).bind fun y m => match cmpop o x y with
    | some true => (ev g c r m).bind fun z m => .of ((cmpop p y z).map .bl) m
    | some false => .ok (.bl false) m
    | none => .bad := by simp only [ev] <;> rfl
@[simp] theorem ev_and (es : Exs) : ev g (.and es) r m = evAnd g es r m := by simp only [ev]
@[simp] theorem ev_or (es : Exs) : ev g (.or es) r m = evOr g es r m := by simp only [ev]
@[simp] theorem ev_not (a : Ex) : ev g (.not a) r m = (asB (ev g a r m)).bind fun b m => .ok (.bl (!b)) m := by simp only [ev]
@[simp] theorem ev_ite (c a b : Ex) : ev g (.ite c a b) r m = (asB (ev g c r m)).bind fun t m => if t then ev g a r m else ev g b r m := by simp only [ev]
@[simp] theorem ev_call (f : Nat) (es : Exs) : ev g (.call f es) r m = (evs g es r m).bind fun ds m => g.call f ds m := by simp only [ev]
@[simp] theorem ev_callk (f : Nat) (es es2 : Exs) (ks : List Str) (ord : List Nat) : ev g (.callk f es ks ord es2) r m = (evs g es r m).bind fun ds m => (evs g es2 r m).bind fun ds2 m => match permD ds ds2 ord with
    | some l => g.call f l m
    | none => .bad := by simp only [ev] <;> rfl
@[simp] theorem ev_b1 (b : B1) (a : Ex) : ev g (.b1 b a) r m = (vx r a m (ev g a r m)).bind fun x m => .of (b1op b x) m := by simp only [ev]
@[simp] theorem ev_b2 (b : B2) (a c : Ex) : ev g (.b2 b a c) r m = (ev g a r m).bind fun x m => (ev g c r m).bind fun y m => .of (b2op b x y) m := by simp only [ev]
@[simp] theorem ev_max3 (a b c : Ex) : ev g (.max3 a b c) r m = (ev g a r m).bind fun x m => (ev g b r m).bind fun y m => (ev g c r m).bind fun z m => .of (max3D x y z) m := by simp only [ev]
@[simp] theorem ev_isa (t : Ty) (a : Ex) : ev g (.isa t a) r m = (ev g a r m).bind fun x m => .of ((isaD t x).map .bl) m := by simp only [ev]
@[simp] theorem ev_m1 (k : M1) (a b : Ex) : ev g (.m1 k a b) r m = (ev g a r m).bind fun x m => (vx r b m (ev g b r m)).bind fun y m => .of (m1op k x y) m := by simp only [ev]
@[simp] theorem ev_idx (a i : Ex) : ev g (.idx a i) r m = (vx r a m (ev g a r m)).bind fun x m => (ev g i r m).bind fun y m => .of (idxD m x y) m := by simp only [ev]
@[simp] theorem ev_slB (a i j : Ex) : ev g (.slB a i j) r m = (vx r a m (ev g a r m)).bind fun x m => (ev g i r m).bind fun y m => (ev g j r m).bind fun z m => .of (slI x y z) m := by simp only [ev]
@[simp] theorem ev_slL (a i : Ex) : ev g (.slL a i) r m = (vx r a m (ev g a r m)).bind fun x m => (ev g i r m).bind fun y m => .of (slLI x y) m := by simp only [ev]
@[simp] theorem ev_slH (a i : Ex) : ev g (.slH a i) r m = (vx r a m (ev g a r m)).bind fun x m => (ev g i r m).bind fun y m => .of (slHI x y) m := by simp only [ev]
@[simp] theorem ev_comp (own : List (Str × Nat)) (elt : Ex) (tg : Tgt) (ik : IK) (its : Exs) : ev g (.comp own elt tg ik its) r m = (evx g its r m).bind fun ds m => match itemsD ik ds with
    | some xs => lstR (mapR (fun x m => match bindT tg x (wipeS r (own.map (·.2))) with
        | some r' => ev g elt r' m
        | none => .bad) xs m)
    | none => .bad := by simp only [ev] <;> rfl
@[simp] theorem ev_compIf (own : List (Str × Nat)) (elt : Ex) (tg : Tgt) (ik : IK) (its : Exs) (c : Ex) : ev g (.compIf own elt tg ik its c) r m = (evx g its r m).bind fun ds m => match itemsD ik ds with
    | some xs => lstR (mapIfR (fun x m => match bindT tg x (wipeS r (own.map (·.2))) with
        | some r' => asB (ev g c r' m)
        | none => .bad) (fun x m => match bindT tg x (wipeS r (own.map (·.2))) with
        | some r' => ev g elt r' m
        | none => .bad) xs m)
    | none => .bad := by simp only [ev] <;> rfl
@[simp] theorem ev_dic0 : ev g .dic0 r m = .ok (.dic [] []) m := by simp only [ev]
@[simp] theorem ev_sp (k : SpK) (a : Ex) : ev g (.sp k a) r m = (vx r a m (ev g a r m)).bind fun x m => .of (spop k x) m := by simp only [ev]
@[simp] theorem vx_dic0 (x : Res D) : vx r .dic0 m x = x := rfl
@[simp] theorem vx_sp (k : SpK) (a : Ex) (x : Res D) : vx r (.sp k a) m x = x := rfl
@[simp] theorem vx_cmp2 (o p : CmpOp) (a b c : Ex) (x : Res D) : vx r (.cmp2 o p a b c) m x = x := rfl
@[simp] theorem vx_isa (t : Ty) (a : Ex) (x : Res D) : vx r (.isa t a) m x = x := rfl
@[simp] theorem vx_max3 (a b c : Ex) (x : Res D) : vx r (.max3 a b c) m x = x := rfl
@[simp] theorem vx_or (a : Exs) (x : Res D) : vx r (.or a) m x = x := rfl
@[simp] theorem evs_nil : evs g .nil r m = .ok [] m := by simp only [evs]
@[simp] theorem evs_cons (e : Ex) (es : Exs) : evs g (.cons e es) r m = (ev g e r m).bind fun d m => (evs g es r m).bind fun ds m => .ok (d :: ds) m := by simp only [evs]
@[simp] theorem evx_nil : evx g .nil r m = .ok [] m := by simp only [evx]
@[simp] theorem evx_cons (e : Ex) (es : Exs) : evx g (.cons e es) r m = (vx r e m (ev g e r m)).bind fun d m => (evx g es r m).bind fun ds m => .ok (d :: ds) m := by simp only [evx]
@[simp] theorem evAnd_one (e : Ex) : evAnd g (.cons e .nil) r m = ev g e r m := by simp only [evAnd]
@[simp] theorem evAnd_cons (e e2 : Ex) (es : Exs) : evAnd g (.cons e (.cons e2 es)) r m = (asB (ev g e r m)).bind fun b m => if b then evAnd g (.cons e2 es) r m else .ok (.bl false) m := by simp only [evAnd]
@[simp] theorem evOr_one (e : Ex) : evOr g (.cons e .nil) r m = ev g e r m := by simp only [evOr]
@[simp] theorem evOr_cons (e e2 : Ex) (es : Exs) : evOr g (.cons e (.cons e2 es)) r m = (asB (ev g e r m)).bind fun b m => if b then .ok (.bl true) m else evOr g (.cons e2 es) r m := by simp only [evOr]
@[simp] theorem vx_view (i : Nat) (x : Res D) : vx r (.view i) m x = match r[i]? with
    | some (.own ds) => .ok (.lst ds) m
    | some (.val d) => .ok d m
    | _ => .bad := rfl
@[simp] theorem vx_cst (c : Const) (x : Res D) : vx r (.cst c) m x = x := rfl
@[simp] theorem vx_var (c : Nat) (x : Res D) : vx r (.var c) m x = x := rfl
@[simp] theorem vx_glb (c : Nat) (x : Res D) : vx r (.glb c) m x = x := rfl
@[simp] theorem vx_tup (c : Exs) (x : Res D) : vx r (.tup c) m x = x := rfl
@[simp] theorem vx_lst (c : Exs) (x : Res D) : vx r (.lst c) m x = x := rfl
@[simp] theorem vx_op (o : Operator) (a b : Ex) (x : Res D) : vx r (.op o a b) m x = x := rfl
@[simp] theorem vx_neg (a : Ex) (x : Res D) : vx r (.neg a) m x = x := rfl
@[simp] theorem vx_not (a : Ex) (x : Res D) : vx r (.not a) m x = x := rfl
@[simp] theorem vx_cmp (o : CmpOp) (a b : Ex) (x : Res D) : vx r (.cmp o a b) m x = x := rfl
@[simp] theorem vx_and (a : Exs) (x : Res D) : vx r (.and a) m x = x := rfl
@[simp] theorem vx_ite (a b c : Ex) (x : Res D) : vx r (.ite a b c) m x = x := rfl
@[simp] theorem vx_call (f : Nat) (a : Exs) (x : Res D) : vx r (.call f a) m x = x := rfl
@[simp] theorem vx_callk (f : Nat) (a b : Exs) (k : List Str) (o : List Nat) (x : Res D) : vx r (.callk f a k o b) m x = x := rfl
@[simp] theorem vx_b1 (b : B1) (a : Ex) (x : Res D) : vx r (.b1 b a) m x = x := rfl
@[simp] theorem vx_b2 (b : B2) (a c : Ex) (x : Res D) : vx r (.b2 b a c) m x = x := rfl
@[simp] theorem vx_m1 (k : M1) (a c : Ex) (x : Res D) : vx r (.m1 k a c) m x = x := rfl
@[simp] theorem vx_idx (a c : Ex) (x : Res D) : vx r (.idx a c) m x = x := rfl
@[simp] theorem vx_slB (a c d : Ex) (x : Res D) : vx r (.slB a c d) m x = x := rfl
@[simp] theorem vx_slL (a c : Ex) (x : Res D) : vx r (.slL a c) m x = x := rfl
@[simp] theorem vx_slH (a c : Ex) (x : Res D) : vx r (.slH a c) m x = x := rfl
@[simp] theorem vx_comp (own : List (Str × Nat)) (elt : Ex) (tg : Tgt) (ik : IK) (its : Exs) (x : Res D) : vx r (.comp own elt tg ik its) m x = x := rfl
@[simp] theorem vx_compIf (own : List (Str × Nat)) (elt : Ex) (tg : Tgt) (ik : IK) (its : Exs) (c : Ex) (x : Res D) : vx r (.compIf own elt tg ik its c) m x = x := rfl
/-! statements -/
theorem ss_nil0 : True := trivial
@[simp] theorem ss_nil : evSs g n .nil r m = .nx r m := by simp only [evSs]
/-- one behind the other -/
def thenS (x : SRes) (f : List Slot → Mu → SRes) : SRes := match x with
  | .nx r m => f r m
  | .rt d m => .rt d m
  | .ex c a m => .ex c a m
  | .bad => .bad
@[simp] theorem thenS_nx (f : List Slot → Mu → SRes) : thenS (.nx r m) f = f r m := id rfl
@[simp] theorem thenS_rt (d : D) (f : List Slot → Mu → SRes) : thenS (.rt d m) f = .rt d m := id rfl
@[simp] theorem thenS_ex (c : Nat) (a : List D) (f : List Slot → Mu → SRes) : thenS (.ex c a m) f = .ex c a m := id rfl
@[simp] theorem thenS_if (c : Prop) [Decidable c] (x y : SRes) (f : List Slot → Mu → SRes) : thenS (if c then x else y) f = if c then thenS x f else thenS y f := by split <;> rfl
@[simp] theorem thenS_id (x : SRes) : thenS x (fun r m => .nx r m) = x := by cases x <;> rfl
@[simp] theorem ss_cons (s : Stm) (ss : Stms) : evSs g n (.cons s ss) r m = thenS (evS g n s r m) fun r m => evSs g n ss r m := by
  simp only [evSs]
  unfold thenS
  cases evS g n s r m <;> rfl
@[simp] theorem endF_if (c : Prop) [Decidable c] (x y : SRes) : endF (if c then x else y) = if c then endF x else endF y := by split <;> rfl
@[simp] theorem s_set (i : Nat) (e : Ex) : evS g n (.set i e) r m = (ev g e r m).st fun d m => .nx (r.set i (.val d)) m := by simp only [evS]
@[simp] theorem s_seto (i : Nat) (e : Ex) : evS g n (.seto i e) r m = (ev g e r m).st fun d m => match d with | .lst ds => .nx (r.set i (.own ds)) m | _ => .bad := by simp only [evS] <;> rfl
@[simp] theorem s_par (is own : List Nat) (es : Exs) : evS g n (.par is es own) r m = (evs g es r m).st fun ds m => if is.length = ds.length then (match ownAll (setAll r is ds) own with | some r => .nx r m | none => .bad) else .bad := by simp only [evS] <;> rfl
@[simp] theorem s_unp (is : List Nat) (e : Ex) : evS g n (.unp is e) r m = (ev g e r m).st fun d m => match d with | .tup ds => if is.length = ds.length then .nx (setAll r is ds) m else .bad | _ => .bad := by simp only [evS] <;> rfl
@[simp] theorem s_app (i : Nat) (e : Ex) : evS g n (.app i e) r m = (ev g e r m).st fun d m => match r[i]? with
    | some (.own ds) => if fit (ds.length + 1) then .nx (r.set i (.own (ds ++ [d]))) m else .bad
    | _ => .bad := by simp only [evS] <;> rfl
@[simp] theorem s_setr (i c : Nat) (e : Ex) : evS g n (.setr i c e) r m = (ev g e r m).st fun d m => match r[i]? with
    | some (.val (.ref a)) => match m[a]? with
      | some xs => if c < xs.length then .nx r (m.set a (xs.set c d)) else .bad
      | none => .bad
    | _ => .bad := by simp only [evS] <;> rfl
@[simp] theorem s_setrp (i c j : Nat) (e : Ex) : evS g n (.setrp i c j e) r m = (ev g e r m).st fun d m => match r[i]?, d with
    | some (.val (.ref a)), .tup [x, y] => match m[a]? with
      | some xs => if c < xs.length then .nx (r.set j (.val y)) (m.set a (xs.set c x)) else .bad
      | none => .bad
    | _, _ => .bad := by simp only [evS] <;> rfl
@[simp] theorem s_ext (i : Nat) (e : Ex) : evS g n (.ext i e) r m = (vx r e m (ev g e r m)).st fun d m => match r[i]?, d with
    | some (.own ds), .lst xs => if fit (ds.length + xs.length) then .nx (r.set i (.own (ds ++ xs))) m else .bad
    | _, _ => .bad := by simp only [evS] <;> rfl
@[simp] theorem s_seti (i : Nat) (ix e : Ex) : evS g n (.seti i ix e) r m = (ev g e r m).st fun d m => (ev g ix r m).st fun k m => match r[i]?, k with
    | some (.own ds), .int k => match ixN ds.length k with | some j => .nx (r.set i (.own (ds.set j d))) m | none => .bad
    | _, _ => .bad := by simp only [evS] <;> rfl
@[simp] theorem s_popa (i j : Nat) (e : Ex) : evS g n (.popa i j e) r m = (ev g e r m).st fun k m => match r[i]?, r[j]?, k with
    | some (.own ds), some (.own es), .int k => match ixN es.length k, inR k && fit (ds.length + 1) with
      | some t, true => (match es[t]? with
        | some d => .nx ((r.set j (.own (es.eraseIdx t))).set i (.own (ds ++ [d]))) m
        | none => .bad)
      | _, _ => .bad
    | _, _, _ => .bad := by simp only [evS] <;> rfl
@[simp] theorem s_spoil2 (i : Nat) (e : Ex) (c : Const) : evS g n (.spoil2 i e c) r m = match callOf g e r m with
    | some (.lst xs, m) => if fit (xs.length + 1) && decide (i < r.length) then .nx (r.set i .un) m else .bad
    | _ => .bad := by simp only [evS] <;> rfl
@[simp] theorem s_drop (e : Ex) : evS g n (.drop e) r m = (ev g e r m).st fun _ m => .nx r m := by simp only [evS]
@[simp] theorem s_spoil (e : Ex) (p : List Nat) (c : Const) : evS g n (.spoil e p c) r m = match callOf g e r m with
    | some (d, m) => (match pathD d p with | some (.lst xs) => if fit (xs.length + 1) then .nx r m else .bad | _ => .bad)
    | _ => .bad := by simp only [evS] <;> rfl
@[simp] theorem s_cond (c : Ex) (a b : Stms) : evS g n (.cond c a b) r m = (asB (ev g c r m)).st fun t m => if t then evSs g n a r m else evSs g n b r m := by simp only [evS]
/-- a turn of a for -/
def forB (g : Mi.Env0) (n : Nat) (tg : Tgt) (b : Stms) (x : D) (r : List Slot) (m : Mu) : SRes := match bindT tg x r with | some r' => evSs g n b r' m | none => .bad
/-- where a for goes -/
def goFor (xs : Option (List D)) (f : D → List Slot → Mu → SRes) (r : List Slot) (m : Mu) : SRes := match xs with | some xs => forR f xs r m | none => .bad
@[simp] theorem goFor_some (xs : List D) (f : D → List Slot → Mu → SRes) (r : List Slot) (m : Mu) : goFor (some xs) f r m = forR f xs r m := id rfl
@[simp] theorem s_for (tg : Tgt) (ik : IK) (its : Exs) (b : Stms) : evS g n (.for_ tg ik its b) r m = (evs g its r m).st fun ds m => goFor (itemsD ik ds) (forB g n tg b) r m := by
  simp only [evS]
  rfl
@[simp] theorem s_while (c : Ex) (b : Stms) : evS g n (.while_ c b) r m = whileR (fun r m => asB (ev g c r m)) (fun r m => evSs g n b r m) n r m := by simp only [evS]
@[simp] theorem s_ret (e : Ex) : evS g n (.ret e) r m = (ev g e r m).st fun d m => .rt d m := by simp only [evS]
@[simp] theorem s_retr (es : Exs) : evS g n (.retr es) r m = (evs g es r m).st fun ds m => .rt (.ref m.length) (m ++ [ds]) := by simp only [evS]
@[simp] theorem s_retN : evS g n .retN r m = .rt .non m := by simp only [evS]
@[simp] theorem s_raise (c : Nat) (es : Exs) : evS g n (.raise c es) r m = (evs g es r m).st fun ds m => .ex c ds m := by simp only [evS]
@[simp] theorem s_frz (i : Nat) : evS g n (.frz i) r m = match r[i]? with | some (.own ds) => .nx (r.set i (.val (.lst ds))) m | _ => .bad := by simp only [evS] <;> rfl
@[simp] theorem endF_rt (d : D) (m : Mu) : endF (.rt d m) = .ok d m := id rfl
@[simp] theorem endF_nx (m : Mu) : endF (.nx r m) = .ok .non m := id rfl
end
/-! operations -/
@[simp] theorem cD_int (i : Int) : cD (.int i) = .int i := rfl
@[simp] theorem cD_str (i : Str) : cD (.str i) = .str i := rfl
@[simp] theorem cD_bl (i : Bool) : cD (.bool i) = .bl i := rfl
@[simp] theorem cD_non : cD .none = .non := rfl
@[simp] theorem le_int (i j : Int) : cmpop .LtE (.int i) (.int j) = some (decide (i ≤ j)) := rfl
@[simp] theorem lt_int' (i j : Int) : cmpop .Lt (.int i) (.int j) = some (decide (i < j)) := rfl
@[simp] theorem gt_int' (i j : Int) : cmpop .Gt (.int i) (.int j) = some (decide (j < i)) := rfl
@[simp] theorem ge_int' (i j : Int) : cmpop .GtE (.int i) (.int j) = some (decide (j ≤ i)) := rfl
@[simp] theorem is_non (a : D) : cmpop .Is a .non = some (isNon a) := rfl
@[simp] theorem isnt_non (a : D) : cmpop .IsNot a .non = some (!isNon a) := rfl
@[simp] theorem eq_cmp (a b : D) : cmpop .Eq a b = eqD a b := rfl
@[simp] theorem ne_cmp (a b : D) : cmpop .NotEq a b = (eqD a b).map not := rfl
@[simp] theorem in_cmp (a b : D) : cmpop .In a b = inD a b := rfl
@[simp] theorem nin_cmp (a b : D) : cmpop .NotIn a b = (inD a b).map not := rfl
@[simp] theorem eqD_int (i j : Int) : eqD (.int i) (.int j) = some (decide (i = j)) := by
  have e : (small (.int i) && small (.int j) && PyData.plain (.int i) && PyData.plain (.int j)) = true := by simp [small, PyData.depth, PyData.plain]
  simp only [eqD, D.py, e, if_true, PyData.eqv]
  by_cases h : i = j <;> simp [h]
@[simp] theorem eqD_str (i j : Str) : eqD (.str i) (.str j) = some (decide (i = j)) := by
  have e : (small (.str i) && small (.str j) && PyData.plain (.str i) && PyData.plain (.str j)) = true := by simp [small, PyData.depth, PyData.plain]
  simp only [eqD, D.py, e, if_true, PyData.eqv]
  by_cases h : i = j <;> simp [h]
@[simp] theorem eqD_bl (i j : Bool) : eqD (.bl i) (.bl j) = some (decide (i = j)) := by cases i <;> cases j <;> rfl
@[simp] theorem add_int (i j : Int) : binop .Add (.int i) (.int j) = some (.int (i + j)) := rfl
@[simp] theorem sub_int (i j : Int) : binop .Sub (.int i) (.int j) = some (.int (i - j)) := rfl
theorem mul_int {i j : Int} (h : i.natAbs.log2 + j.natAbs.log2 < 1000000) : binop .Mult (.int i) (.int j) = some (.int (i * j)) := if_pos (decide_eq_true h)
theorem div_int {i j : Int} (h : 0 < j) (h2 : j.natAbs.log2 < 9000) : binop .FloorDiv (.int i) (.int j) = some (.int (i / j)) := if_pos (decide_eq_true ⟨h, h2⟩)
theorem mod_int {i j : Int} (h : 0 < j) : binop .Mod (.int i) (.int j) = some (.int (i % j)) := if_pos (decide_eq_true h)
@[simp] theorem len_lst (xs : List D) : b1op .len (.lst xs) = some (.int xs.length) := rfl
@[simp] theorem len_tup (xs : List D) : b1op .len (.tup xs) = some (.int xs.length) := rfl
@[simp] theorem len_scr (xs : List Int) : b1op .len (.scr xs) = some (.int xs.length) := rfl
@[simp] theorem abs_int (i : Int) : b1op .abs (.int i) = some (.int (if i < 0 then -i else i)) := rfl
@[simp] theorem int_int (i : Int) : b1op .int (.int i) = some (.int i) := rfl
@[simp] theorem tup_lst (xs : List D) : b1op .tuple (.lst xs) = some (.tup xs) := rfl
@[simp] theorem tup_tup (xs : List D) : b1op .tuple (.tup xs) = some (.tup xs) := rfl
@[simp] theorem max_int (i j : Int) : b2op .max (.int i) (.int j) = some (.int (if j > i then j else i)) := rfl
@[simp] theorem min_int (i j : Int) : b2op .min (.int i) (.int j) = some (.int (if j < i then j else i)) := rfl
theorem dm_int {i j : Int} (h : 0 < j) (h2 : j < 1073741824) : b2op .divmod (.int i) (.int j) = some (.tup [.int (i / j), .int (i % j)]) := if_pos (decide_eq_true ⟨h, h2⟩)
theorem bls_map (l : List Bool) : bls? (l.map D.bl) = some l := by
  induction l with
  | nil => rfl
  | cons b r ih => simp [bls?, ih]
theorem ints_map (l : List Int) : ints? (l.map D.int) = some l := by
  induction l with
  | nil => rfl
  | cons b r ih => simp [ints?, ih]
theorem strs_map (l : List Str) : strs? (l.map D.str) = some l := by
  induction l with
  | nil => rfl
  | cons b r ih => simp [strs?, ih]
@[simp] theorem all_bls (l : List Bool) : b1op .all (.lst (l.map D.bl)) = some (.bl (l.all id)) := by simp [b1op, bls_map]
@[simp] theorem any_bls (l : List Bool) : b1op .any (.lst (l.map D.bl)) = some (.bl (l.any id)) := by simp [b1op, bls_map]
@[simp] theorem sum_ints (l : List Int) : b1op .sum (.lst (l.map D.int)) = some (.int l.sum) := by simp [b1op, ints_map]
theorem at_nat {α : Type} (xs : List α) (n : Nat) : atI xs (n : Int) = xs[n]? := by
  unfold atI ixN
  by_cases h : n < xs.length
  · rw [if_pos (by omega), if_pos (by omega)]
    rfl
  · rw [if_pos (by omega), if_neg (by omega), List.getElem?_eq_none (by omega)]
    rfl
theorem at_0 {α : Type} (xs : List α) : atI xs 0 = xs[0]? := at_nat xs 0
theorem at_1 {α : Type} (xs : List α) : atI xs 1 = xs[1]? := at_nat xs 1
theorem idx_l (m : Mu) (xs : List D) (i : Int) : idxD m (.lst xs) (.int i) = atI xs i := rfl
theorem idx_t (m : Mu) (xs : List D) (i : Int) : idxD m (.tup xs) (.int i) = atI xs i := rfl
@[simp] theorem idx_l0 (m : Mu) (xs : List D) : idxD m (.lst xs) (.int 0) = xs[0]? := at_0 xs
@[simp] theorem idx_t0 (m : Mu) (xs : List D) : idxD m (.tup xs) (.int 0) = xs[0]? := at_0 xs
@[simp] theorem idx_l1 (m : Mu) (xs : List D) : idxD m (.lst xs) (.int 1) = xs[1]? := at_1 xs
@[simp] theorem idx_t1 (m : Mu) (xs : List D) : idxD m (.tup xs) (.int 1) = xs[1]? := at_1 xs
@[simp] theorem items_seqL (xs : List D) : itemsD .seq [.lst xs] = some xs := rfl
@[simp] theorem items_seqT (xs : List D) : itemsD .seq [.tup xs] = some xs := rfl
@[simp] theorem bind_nm (i : Nat) (d : D) (r : List Slot) : bindT (.nm i) d r = some (r.set i (.val d)) := rfl
@[simp] theorem wipe_nil (r : List Slot) : wipeS r [] = r := rfl
@[simp] theorem wipe_cons (r : List Slot) (v : Nat) (vs : List Nat) : wipeS r (v :: vs) = (wipeS r vs).set v .un := rfl
/-- a comprehension whose turns leave the store as it is -/
theorem mapR_map {f : D → Mu → Res D} {h : D → D} {m : Mu} : ∀ {xs : List D}, (∀ x ∈ xs, f x m = .ok (h x) m) → mapR f xs m = .ok (xs.map h) m
  | [], _ => rfl
  | x :: xs, q => by
    rw [mapR, q x List.mem_cons_self]
    dsimp only
    rw [mapR_map fun y hy => q y (List.mem_cons_of_mem _ hy)]
    rfl
/-- .. whose turns keep a word of the store, each item something -/
theorem mapR_inv {f : D → Mu → Res D} {I : Mu → Prop} {P : D → Prop} : ∀ {xs : List D} {m : Mu}, I m → (∀ x ∈ xs, ∀ m, I m → ∃ y m', f x m = .ok y m' ∧ P y ∧ I m') → ∃ ys m', mapR f xs m = .ok ys m' ∧ ys.length = xs.length ∧ (∀ y ∈ ys, P y) ∧ I m'
  | [], m, h, _ => ⟨[], m, rfl, rfl, fun y hy => (by cases hy), h⟩
  | x :: xs, m, h, q => by
    obtain ⟨y, m1, e1, p1, h1⟩ := q x List.mem_cons_self m h
    obtain ⟨ys, m2, e2, l2, p2, h2⟩ := mapR_inv h1 fun z hz => q z (List.mem_cons_of_mem _ hz)
    refine ⟨y :: ys, m2, ?_, by rw [List.length_cons, List.length_cons, l2], fun z hz => ?_, h2⟩
    · rw [mapR, e1]
      dsimp only
      rw [e2]
    · rcases List.mem_cons.mp hz with e | e
      · rw [e]
        exact p1
      · exact p2 z e
theorem lstR_ok {ys : List D} {m : Mu} (h : ys.length ≤ 16777216) : lstR (.ok ys m) = .ok (.lst ys) m := by
  have : fit ys.length = true := decide_eq_true h
  simp [lstR, this]
theorem ev_comp_eq {g : Mi.Env0} {own : List (Str × Nat)} {elt : Ex} {tg : Tgt} {ik : IK} {its : Exs} {r : List Slot} {m m1 : Mu} {ds xs : List D} (h1 : evx g its r m = .ok ds m1) (h2 : itemsD ik ds = some xs) :
    ev g (.comp own elt tg ik its) r m = lstR (mapR (fun x m => match bindT tg x (wipeS r (own.map (·.2))) with
        | some r' => ev g elt r' m
        | none => .bad) xs m1) := by
  rw [ev_comp, h1, bind_ok', h2]
theorem s_for_eq {g : Mi.Env0} {n : Nat} {tg : Tgt} {ik : IK} {its : Exs} {b : Stms} {r : List Slot} {m m1 : Mu} {ds xs : List D} (h1 : evs g its r m = .ok ds m1) (h2 : itemsD ik ds = some xs) :
    evS g n (.for_ tg ik its b) r m = forR (forB g n tg b) xs r m1 := by
  rw [s_for, h1, st_ok', h2]
  rfl
theorem mapR_keep {f : D → Mu → Res D} {m : Mu} : ∀ {xs : List D}, (∀ x ∈ xs, ∃ y, f x m = .ok y m) → ∃ ys, mapR f xs m = .ok ys m ∧ ys.length = xs.length
  | [], _ => ⟨[], rfl, rfl⟩
  | x :: xs, h => by
    obtain ⟨y, e⟩ := h x List.mem_cons_self
    obtain ⟨ys, e2, l⟩ := mapR_keep fun z hz => h z (List.mem_cons_of_mem _ hz)
    refine ⟨y :: ys, ?_, by rw [List.length_cons, List.length_cons, l]⟩
    rw [mapR, e]
    dsimp only
    rw [e2]
end Mi

set_option linter.all false
set_option maxRecDepth 100000
set_option maxHeartbeats 4000000
/-! Mk1: words for walks: comprehensions, loops. -/
namespace Mi
open PySem PySem.Spec L2
theorem mapR_emb {α : Type} {f : D → Mu → Res D} {e : α → D} {h : α → D} {m : Mu} : ∀ {xs : List α}, (∀ a ∈ xs, f (e a) m = .ok (h a) m) → mapR f (xs.map e) m = .ok (xs.map h) m
  | [], _ => rfl
  | x :: xs, q => by
    rw [List.map_cons, mapR, q x List.mem_cons_self]
    dsimp only
    rw [mapR_emb fun y hy => q y (List.mem_cons_of_mem _ hy)]
    rfl
theorem mapIfR_emb {α : Type} {c : D → Mu → Res Bool} {f : D → Mu → Res D} {e : α → D} {h : α → D} {p : α → Bool} {m : Mu} : ∀ {xs : List α}, (∀ a ∈ xs, c (e a) m = .ok (p a) m ∧ (p a = true → f (e a) m = .ok (h a) m)) → mapIfR c f (xs.map e) m = .ok ((xs.filter p).map h) m
  | [], _ => rfl
  | x :: xs, q => by
    obtain ⟨q1, q2⟩ := q x List.mem_cons_self
    rw [List.map_cons, mapIfR, q1]
    have ih := mapIfR_emb (xs := xs) fun y hy => q y (List.mem_cons_of_mem _ hy)
    cases hp : p x with
    | true =>
      dsimp only
      rw [q2 hp]
      dsimp only
      rw [ih, List.filter_cons_of_pos hp]
      rfl
    | false =>
      dsimp only
      rw [ih, List.filter_cons_of_neg (by rw [hp]; simp)]
/-- [elt for tg in its]: pure -/
theorem comp_mapW {α : Type} {g : Mi.Env0} {own : List (Str × Nat)} {elt : Ex} {tg : Tgt} {ik : IK} {its : Exs} {r : List Slot} {m m1 : Mu} {ds : List D} (ls : List α) (e h : α → D)
    (h1 : evx g its r m = .ok ds m1) (h2 : itemsD ik ds = some (ls.map e)) (h3 : ∀ a ∈ ls, ∃ r', bindT tg (e a) (wipeS r (own.map (·.2))) = some r' ∧ ev g elt r' m1 = .ok (h a) m1) (h4 : ls.length ≤ 16777216) :
    ev g (.comp own elt tg ik its) r m = .ok (.lst (ls.map h)) m1 := by
  rw [ev_comp, h1, bind_ok', h2]
  dsimp only
  rw [mapR_emb (h := h) fun a ha => by
    obtain ⟨r', q1, q2⟩ := h3 a ha
    rw [q1]
    exact q2, lstR_ok (by rw [List.length_map]; exact h4)]
theorem comp_map {α : Type} {g : Mi.Env0} {own : List (Str × Nat)} {elt : Ex} {tg : Tgt} {ik : IK} {its : Exs} {r : List Slot} {m : Mu} {ds : List D} (ls : List α) (e h : α → D)
    (h1 : evx g its r m = .ok ds m) (h2 : itemsD ik ds = some (ls.map e)) (h3 : ∀ a ∈ ls, ∃ r', bindT tg (e a) (wipeS r (own.map (·.2))) = some r' ∧ ev g elt r' m = .ok (h a) m) (h4 : ls.length ≤ 16777216) :
    ev g (.comp own elt tg ik its) r m = .ok (.lst (ls.map h)) m :=
  comp_mapW ls e h h1 h2 h3 h4
theorem comp_filterW {α : Type} {g : Mi.Env0} {own : List (Str × Nat)} {elt c : Ex} {tg : Tgt} {ik : IK} {its : Exs} {r : List Slot} {m m1 : Mu} {ds : List D} (ls : List α) (e h : α → D) (p : α → Bool)
    (h1 : evx g its r m = .ok ds m1) (h2 : itemsD ik ds = some (ls.map e)) (h3 : ∀ a ∈ ls, ∃ r', bindT tg (e a) (wipeS r (own.map (·.2))) = some r' ∧ ev g c r' m1 = .ok (.bl (p a)) m1 ∧ (p a = true → ev g elt r' m1 = .ok (h a) m1)) (h4 : ls.length ≤ 16777216) :
    ev g (.compIf own elt tg ik its c) r m = .ok (.lst ((ls.filter p).map h)) m1 := by
  rw [ev_compIf, h1, bind_ok', h2]
  dsimp only
  rw [mapIfR_emb (h := h) (p := p) fun a ha => by
    obtain ⟨r', q1, q2, q3⟩ := h3 a ha
    rw [q1]
    dsimp only
    rw [q2]
    exact ⟨rfl, q3⟩, lstR_ok (by rw [List.length_map]; exact Nat.le_trans (List.length_filter_le _ _) h4)]
theorem comp_filter {α : Type} {g : Mi.Env0} {own : List (Str × Nat)} {elt c : Ex} {tg : Tgt} {ik : IK} {its : Exs} {r : List Slot} {m : Mu} {ds : List D} (ls : List α) (e h : α → D) (p : α → Bool)
    (h1 : evx g its r m = .ok ds m) (h2 : itemsD ik ds = some (ls.map e)) (h3 : ∀ a ∈ ls, ∃ r', bindT tg (e a) (wipeS r (own.map (·.2))) = some r' ∧ ev g c r' m = .ok (.bl (p a)) m ∧ (p a = true → ev g elt r' m = .ok (h a) m)) (h4 : ls.length ≤ 16777216) :
    ev g (.compIf own elt tg ik its c) r m = .ok (.lst ((ls.filter p).map h)) m :=
  comp_filterW ls e h p h1 h2 h3 h4
/-- .. that draws: a word of the store is kept, each item has something -/
theorem comp_inv {g : Mi.Env0} {own : List (Str × Nat)} {elt : Ex} {tg : Tgt} {ik : IK} {its : Exs} {r : List Slot} {m m1 : Mu} {ds xs : List D} (I : Mu → Prop) (P : D → Prop)
    (h1 : evx g its r m = .ok ds m1) (h2 : itemsD ik ds = some xs) (h0 : I m1) (h3 : ∀ x ∈ xs, ∀ m, I m → ∃ r', bindT tg x (wipeS r (own.map (·.2))) = some r' ∧ ∃ y m', ev g elt r' m = .ok y m' ∧ P y ∧ I m') (h4 : xs.length ≤ 16777216) :
    ∃ ys m', ev g (.comp own elt tg ik its) r m = .ok (.lst ys) m' ∧ ys.length = xs.length ∧ (∀ y ∈ ys, P y) ∧ I m' := by
  obtain ⟨ys, m', q1, q2, q3, q4⟩ := mapR_inv (f := fun x m => match bindT tg x (wipeS r (own.map (·.2))) with
        | some r' => ev g elt r' m
        | none => .bad) (I := I) (P := P) (xs := xs) (m := m1) h0 fun x hx m hm => by
    obtain ⟨r', q1, y, m', q2, q3, q4⟩ := h3 x hx m hm
    refine ⟨y, m', ?_, q3, q4⟩
    rw [q1]
    exact q2
  refine ⟨ys, m', ?_, q2, q3, q4⟩
  rw [ev_comp, h1, bind_ok', h2]
  exact (congrArg lstR q1).trans (lstR_ok (by rw [q2]; exact h4))
/-- a for whose turns all go on -/
theorem for_run {α : Type} {f : D → List Slot → Mu → SRes} {e : α → D} (P : List α → List Slot → Mu → Prop) : ∀ (ls done : List α) (r : List Slot) (m : Mu), P done r m →
    (∀ (d : List α) (a : α) (rest : List α) (r : List Slot) (m : Mu), done ++ ls = d ++ a :: rest → P d r m → ∃ r' m', f (e a) r m = .nx r' m' ∧ P (d ++ [a]) r' m') →
    ∃ r' m', forR f (ls.map e) r m = .nx r' m' ∧ P (done ++ ls) r' m'
  | [], done, r, m, h, _ => ⟨r, m, rfl, by rw [List.append_nil]; exact h⟩
  | a :: ls, done, r, m, h, st => by
    obtain ⟨r1, m1, q1, q2⟩ := st done a ls r m rfl h
    obtain ⟨r2, m2, q3, q4⟩ := for_run P ls (done ++ [a]) r1 m1 q2 fun d b rest r m hd => st d b rest r m (by rw [← hd, List.append_assoc]; rfl)
    refine ⟨r2, m2, ?_, ?_⟩
    · rw [List.map_cons, forR, q1]
      exact q3
    · rw [List.append_assoc] at q4
      exact q4
/-- it goes on where p does not hold, gives something where it holds; the store stays -/
def Fnd (p : Bool) (Inv : List Slot → Prop) (Q : D → Prop) (m : Mu) : SRes → Prop
  | .nx r m' => p = false ∧ Inv r ∧ m' = m
  | .rt d m' => p = true ∧ Q d ∧ m' = m
  | _ => False
theorem Fnd.imp {p : Bool} {I I' : List Slot → Prop} {Q Q' : D → Prop} {m : Mu} {x : SRes} (h : Fnd p I Q m x) (h1 : ∀ r, I r → I' r) (h2 : ∀ d, Q d → Q' d) : Fnd p I' Q' m x := by
  cases x with
  | nx r m' => exact ⟨h.1, h1 _ h.2.1, h.2.2⟩
  | rt d m' => exact ⟨h.1, h2 _ h.2.1, h.2.2⟩
  | ex _ _ _ => exact h
  | bad => exact h
theorem Fnd.then {p : Bool} {I : List Slot → Prop} {Q : D → Prop} {m : Mu} {x : SRes} (h : Fnd p I Q m x) (f : List Slot → Mu → SRes) : (p = false → ∃ r, I r ∧ thenS x f = f r m) ∧ (p = true → ∃ d, Q d ∧ thenS x f = .rt d m) := by
  cases x with
  | nx r m' =>
    have h' : p = false ∧ I r ∧ m' = m := h
    obtain ⟨h1, h2, h3⟩ := h'
    subst h3
    refine ⟨?_, ?_⟩
    · intro _
      exact ⟨r, h2, rfl⟩
    · intro z
      rw [h1] at z
      cases z
  | rt d m' =>
    have h' : p = true ∧ Q d ∧ m' = m := h
    obtain ⟨h1, h2, h3⟩ := h'
    subst h3
    refine ⟨?_, ?_⟩
    · intro z
      rw [h1] at z
      cases z
    · intro _
      exact ⟨d, h2, rfl⟩
  | ex _ _ _ => exact False.elim h
  | bad => exact False.elim h
/-- a for that looks for something: the store stays -/
theorem for_find {α : Type} {f : D → List Slot → Mu → SRes} (e : α → D) {m : Mu} (Inv : List Slot → Prop) (p : α → Bool) (Q : D → Prop) : ∀ (ls : List α) (r : List Slot), Inv r →
    (∀ a ∈ ls, ∀ r, Inv r → Fnd (p a) Inv Q m (f (e a) r m)) → Fnd (ls.any p) Inv Q m (forR f (ls.map e) r m)
  | [], r, h, _ => ⟨rfl, h, rfl⟩
  | a :: ls, r, h, st => by
    have s1 := st a List.mem_cons_self r h
    rw [List.map_cons, forR, List.any_cons]
    cases e1 : f (e a) r m with
    | nx r1 m1 =>
      rw [e1] at s1
      obtain ⟨h1, h2, rfl⟩ := s1
      rw [h1, Bool.false_or]
      exact for_find e Inv p Q ls r1 h2 fun b hb => st b (List.mem_cons_of_mem _ hb)
    | rt d m1 =>
      rw [e1] at s1
      obtain ⟨h1, h2, rfl⟩ := s1
      rw [h1, Bool.true_or]
      exact ⟨rfl, h2, rfl⟩
    | ex _ _ _ =>
      rw [e1] at s1
      exact s1
    | bad =>
      rw [e1] at s1
      exact s1
theorem rng_map : ∀ (n : Nat) (a : Int), rng a n = (List.range n).map fun (j : Nat) => D.int (a + j)
  | 0, a => rfl
  | n + 1, a => by
    rw [List.range_succ_eq_map, List.map_cons, List.map_map, rng, rng_map n (a + 1)]
    congr 1
    · simp
    · refine List.map_congr_left fun j _ => ?_
      show D.int _ = D.int (a + ((j + 1 : Nat) : Int))
      congr 1
      omega
theorem rng0 (n : Nat) : rng 0 n = (List.range n).map fun (j : Nat) => D.int (j : Int) := by
  rw [rng_map]
  exact List.map_congr_left fun j _ => by rw [Int.zero_add]
theorem items_rng {N : Nat} (h : N ≤ 4000000000000000000) : itemsD .range1 [.int (N : Int)] = some ((List.range N).map fun (j : Nat) => D.int (j : Int)) := by
  have : inR (N : Int) = true := decide_eq_true (by omega)
  show (if inR (N : Int) = true then some (rng 0 (N : Int).toNat) else none) = _
  rw [if_pos this, Int.toNat_natCast, rng0]
theorem log2_le {i : Int} {k : Nat} (h : i.natAbs < 2 ^ k) : i.natAbs.log2 ≤ k := by
  by_cases h0 : i.natAbs = 0
  · rw [h0]
    exact Nat.zero_le _
  · exact Nat.le_of_lt ((Nat.log2_lt h0).mpr h)
/-- a product of numbers that are not too great -/
theorem mul_b {i j : Int} (h1 : i.natAbs < 2 ^ 400000) (h2 : j.natAbs < 2 ^ 400000) : binop .Mult (.int i) (.int j) = some (.int (i * j)) := mul_int (by
  have := log2_le h1
  have := log2_le h2
  omega)
theorem pow_pos_b (a b : Nat) (h : a ≤ b) : (2:Nat) ^ a ≤ 2 ^ b := Nat.pow_le_pow_right (by decide) h
theorem mul_s {i j : Int} (h1 : -1000000000000000000000000000000 ≤ i) (h2 : i ≤ 1000000000000000000000000000000) (h3 : -1000000000000000000000000000000 ≤ j) (h4 : j ≤ 1000000000000000000000000000000) : binop .Mult (.int i) (.int j) = some (.int (i * j)) :=
  have e : (2:Nat) ^ 200 = 1606938044258990275541962092341162602522202993782792835301376 := rfl
  mul_b (Nat.lt_of_lt_of_le (m := 2 ^ 200) (by omega) (pow_pos_b _ _ (by decide))) (Nat.lt_of_lt_of_le (m := 2 ^ 200) (by omega) (pow_pos_b _ _ (by decide)))
theorem pys_ints : ∀ ls : List Int, pys (ls.map D.int) = some (ls.map PyData.int)
  | [] => rfl
  | a :: r => by
    rw [List.map_cons, List.map_cons, pys, pys_ints r]
    rfl
theorem plain_ints : ∀ ls : List Int, PyData.plainAll (ls.map PyData.int) = true
  | [] => rfl
  | a :: r => by
    rw [List.map_cons, PyData.plainAll, plain_ints r]
    rfl
theorem any_ints (t : Int) : ∀ ls : List Int, ((ls.map PyData.int).any fun q => PyData.eqv q (.int t)) = ls.contains t
  | [] => rfl
  | a :: r => by
    rw [List.map_cons, List.any_cons, any_ints t r, List.contains_cons]
    congr 1
    by_cases h : a = t
    · subst h
      simp [PyData.eqv]
    · have h2 : t ≠ a := fun z => h z.symm
      rw [PyData.eqv, beq_eq_false_iff_ne.mpr h, beq_eq_false_iff_ne.mpr h2]
/-- t in a lot -/
theorem inD_ints (t : Int) (ls : List Int) : inD (.int t) (.tup (ls.map D.int)) = some (ls.contains t) := by
  have h3 : (small (.int t) && PyData.plain (.int t) && PyData.plainAll (ls.map PyData.int)) = true := by
    rw [plain_ints]
    simp [small, PyData.depth, PyData.plain]
  show (match (D.int t).py, pys (ls.map D.int) with
    | some p, some qs => if small p && p.plain && PyData.plainAll qs then some (qs.any fun q => PyData.eqv q p) else none
    | _, _ => none) = _
  rw [pys_ints]
  simp only [D.py, h3, if_true, any_ints]
theorem inD_intsL (t : Int) (ls : List Int) : inD (.int t) (.lst (ls.map D.int)) = some (ls.contains t) := by
  have h3 : (small (.int t) && PyData.plain (.int t) && PyData.plainAll (ls.map PyData.int)) = true := by
    rw [plain_ints]
    simp [small, PyData.depth, PyData.plain]
  show (match (D.int t).py, pys (ls.map D.int) with
    | some p, some qs => if small p && p.plain && PyData.plainAll qs then some (qs.any fun q => PyData.eqv q p) else none
    | _, _ => none) = _
  rw [pys_ints]
  simp only [D.py, h3, if_true, any_ints]
theorem enums_map {α : Type} (f : α → D) : ∀ (l : List α) (i : Nat), enums (i : Int) (l.map f) = (l.zipIdx i).map fun q => .tup [.int (q.2 : Nat), f q.1]
  | [], i => rfl
  | a :: r, i => by
    rw [List.map_cons, enums, List.zipIdx_cons, List.map_cons]
    have := enums_map f r (i + 1)
    have e : ((i : Nat) : Int) + 1 = ((i + 1 : Nat) : Int) := by omega
    rw [e, this]
theorem items_enT {α : Type} (f : α → D) (l : List α) : itemsD .enum [.tup (l.map f)] = some (l.zipIdx.map fun q => .tup [.int (q.2 : Nat), f q.1]) := congrArg some (enums_map f l 0)
theorem items_enL {α : Type} (f : α → D) (l : List α) : itemsD .enum [.lst (l.map f)] = some (l.zipIdx.map fun q => .tup [.int (q.2 : Nat), f q.1]) := congrArg some (enums_map f l 0)
theorem cut_from {α : Type} (xs : List α) (k : Nat) : cutL xs (some (k : Int)) none = xs.drop k := by
  unfold cutL
  rw [HT.sIx_none, HT.sIx_nat]
  by_cases h : k ≤ xs.length
  · rw [Nat.min_eq_left h, List.take_of_length_le (by rw [List.length_drop]; exact Nat.le_refl _)]
  · rw [Nat.min_eq_right (by omega), List.drop_length, List.drop_eq_nil_of_le (by omega)]
    simp
theorem cut_to {α : Type} (xs : List α) (k : Nat) : cutL xs none (some (k : Int)) = xs.take k := by
  unfold cutL
  rw [HT.sIx_none, HT.sIx_nat, List.drop_zero, Nat.sub_zero]
  by_cases h : k ≤ xs.length
  · rw [Nat.min_eq_left h]
  · rw [Nat.min_eq_right (by omega), List.take_length, List.take_of_length_le (by omega)]
@[simp] theorem slL_t (xs : List D) (k : Nat) : slLI (.tup xs) (.int (k : Int)) = some (.tup (xs.drop k)) := by
  show some (D.tup (cutL xs (some (k : Int)) none)) = _
  rw [cut_from]
@[simp] theorem slL_l (xs : List D) (k : Nat) : slLI (.lst xs) (.int (k : Int)) = some (.lst (xs.drop k)) := by
  show some (D.lst (cutL xs (some (k : Int)) none)) = _
  rw [cut_from]
@[simp] theorem slH_t (xs : List D) (k : Nat) : slHI (.tup xs) (.int (k : Int)) = some (.tup (xs.take k)) := by
  show some (D.tup (cutL xs none (some (k : Int)))) = _
  rw [cut_to]
@[simp] theorem slH_l (xs : List D) (k : Nat) : slHI (.lst xs) (.int (k : Int)) = some (.lst (xs.take k)) := by
  show some (D.lst (cutL xs none (some (k : Int)))) = _
  rw [cut_to]
end Mi

set_option linter.all false
set_option maxRecDepth 100000
set_option maxHeartbeats 4000000
/-! Mk2: what repr shows; draws' arithmetic. -/
namespace Mi
open PySem PySem.Spec L2 TL
theorem num_len {i : Int} {k : Nat} (h : i.natAbs < 10 ^ (k + 1)) : (toString i : Str).length ≤ k + 2 := by
  have n := numL_len (k := k + 1) (by omega) h
  rw [len_tl]
  by_cases hi : i < 0
  · have e := PyProof.Rows.toString_neg hi
    have e2 : (0 - i) = ((i.natAbs : Nat) : Int) := by omega
    rw [e2] at e
    have t := tl_num i.natAbs
    rw [tl_ofString] at t
    show (tl (Str.ofString (toString i))).length ≤ _
    rw [e, tl_ofString, String.toList_append, List.map_append, t, List.length_append]
    show 1 + _ ≤ _
    omega
  · have e2 : i = ((i.natAbs : Nat) : Int) := by omega
    have t := tl_num i.natAbs
    rw [← e2] at t
    show (tl (Str.ofString (toString i))).length ≤ _
    rw [t]
    omega
/-! what may be shown -/
structure Nice (dp W : Nat) (d : D) : Prop where
  ex : ∃ p, d.py = some p ∧ p.depth ≤ dp ∧ p.showable = true ∧ p.leavesShort 42 = true ∧ p.weight ≤ W
structure Nices (dp W : Nat) (ds : List D) : Prop where
  ex : ∃ ps, pys ds = some ps ∧ PyData.depthAll ps ≤ dp ∧ PyData.showableAll ps = true ∧ PyData.leavesShortAll 42 ps = true ∧ PyData.weightAll ps ≤ ds.length * (W + 1)
theorem log_lt {n k : Nat} (h : n < 2 ^ k) (hk : 0 < k) : n.log2 < k := by
  by_cases h0 : n = 0
  · rw [h0]
    exact Nat.lt_of_le_of_lt (Nat.le_of_eq Nat.log2_zero) hk
  · exact (Nat.log2_lt h0).mpr h
theorem nice_num {i : Int} {K : Nat} (h : i.natAbs < 2 ^ K) (hK0 : 0 < K) (hK : K ≤ 136) : Nice 1 K (.int i) := by
  have hb : i.natAbs < 10 ^ 41 := Nat.lt_of_lt_of_le h (Nat.le_trans (Nat.pow_le_pow_right (by decide) hK) (by decide))
  refine ⟨.int i, rfl, ?_, ?_, ?_, ?_⟩
  · simp [PyData.depth]
  · rw [PyData.showable]
    have := log_lt h hK0
    exact decide_eq_true (by omega)
  · rw [PyData.leavesShort]
    exact decide_eq_true (show (toString i : Str).length ≤ 42 from num_len hb)
  · rw [PyData.weight]
    split
    · omega
    · have := log_lt h hK0
      omega
theorem nice_int {i : Int} (h : i.natAbs < 10 ^ 12) : Nice 1 40 (.int i) := nice_num (Nat.lt_trans h (by decide)) (by decide) (by decide)
theorem nice_big {i : Int} (h : i.natAbs < 10 ^ 40) : Nice 1 136 (.int i) := nice_num (Nat.lt_trans h (by decide)) (by decide) (by decide)
theorem nice_non : Nice 1 40 .non := ⟨.none, rfl, by simp [PyData.depth], rfl, rfl, by simp [PyData.weight]⟩
theorem nice_bl (b : Bool) : Nice 1 40 (.bl b) := ⟨.bool b, rfl, by simp [PyData.depth], rfl, rfl, by simp [PyData.weight]⟩
theorem nice_dic0 : Nice 1 40 (.dic [] []) := ⟨.dict [], rfl, by simp [PyData.depth, PyData.depthKv], rfl, rfl, by simp [PyData.weight, PyData.weightKv]⟩
theorem nice_str {x : Str} {W : Nat} (h : ∀ c ∈ tl x, c < 128) (hl : x.length ≤ W) : Nice 1 W (.str x) := by
  refine ⟨.str x, rfl, ?_, ?_, ?_, ?_⟩
  · simp [PyData.depth]
  · rw [PyData.showable]
  · rw [PyData.leavesShort]
    exact List.all_eq_true.mpr fun c hc => decide_eq_true (Nat.lt_of_lt_of_le (h c hc) (by decide))
  · rw [PyData.weight]
    exact hl
theorem nices_of {dp W : Nat} : ∀ {ds : List D}, (∀ d ∈ ds, Nice dp W d) → Nices dp W ds
  | [], _ => ⟨[], rfl, by simp [PyData.depthAll], rfl, rfl, by simp [PyData.weightAll]⟩
  | d :: ds, h => by
    obtain ⟨p, e1, e2, e3, e4, e5⟩ := (h d (by simp)).ex
    obtain ⟨ps, f1, f2, f3, f4, f5⟩ := (nices_of fun y hy => h y (List.mem_cons_of_mem _ hy)).ex
    refine ⟨p :: ps, by simp [pys, e1, f1], ?_, ?_, ?_, ?_⟩
    · rw [PyData.depthAll]
      exact Nat.max_le.mpr ⟨e2, f2⟩
    · rw [PyData.showableAll, e3, f3]
      rfl
    · rw [PyData.leavesShortAll, e4, f4]
      rfl
    · rw [PyData.weightAll, List.length_cons, Nat.succ_mul]
      omega
theorem nice_lst {dp W : Nat} {ds : List D} (h : ∀ d ∈ ds, Nice dp W d) : Nice (dp + 1) (ds.length * (W + 1)) (.lst ds) := by
  obtain ⟨ps, f1, f2, f3, f4, f5⟩ := (nices_of h).ex
  refine ⟨.list ps, pyL f1, ?_, ?_, ?_, ?_⟩
  · rw [PyData.depth]
    omega
  · rw [PyData.showable]
    exact f3
  · rw [PyData.leavesShort]
    exact f4
  · rw [PyData.weight]
    exact f5
theorem nice_tup {dp W : Nat} {ds : List D} (h : ∀ d ∈ ds, Nice dp W d) : Nice (dp + 1) (ds.length * (W + 1)) (.tup ds) := by
  obtain ⟨ps, f1, f2, f3, f4, f5⟩ := (nices_of h).ex
  refine ⟨.tuple ps, pyT f1, ?_, ?_, ?_, ?_⟩
  · rw [PyData.depth]
    omega
  · rw [PyData.showable]
    exact f3
  · rw [PyData.leavesShort]
    exact f4
  · rw [PyData.weight]
    exact f5
theorem Nice.mono {dp dp' W W' : Nat} {d : D} (h : Nice dp W d) (h1 : dp ≤ dp') (h2 : W ≤ W') : Nice dp' W' d := by
  obtain ⟨p, e1, e2, e3, e4, e5⟩ := h.ex
  exact ⟨p, e1, by omega, e3, e4, by omega⟩
theorem Nice.repr {dp W : Nat} {d : D} (h : Nice dp W d) (h1 : dp ≤ 40) (h2 : W ≤ 380000) : ∃ x, b1op .repr d = some (.str x) := by
  obtain ⟨p, e1, e2, e3, e4, e5⟩ := h.ex
  have hs := PyData.shown_le 42 (by decide) p e4
  have hw : (42 + 2) * p.weight ≤ 44 * 380000 := Nat.mul_le_mul_left 44 (by omega)
  have c : (small p && p.showable && fit p.shown.length) = true := by
    rw [e3]
    have s1 : small p = true := decide_eq_true (by omega)
    have s2 : fit p.shown.length = true := decide_eq_true (by omega)
    rw [s1, s2]
    rfl
  refine ⟨p.shown, ?_⟩
  show (match d.py with
    | some p => if small p && p.showable && fit p.shown.length then some (D.str p.shown) else none
    | none => none) = _
  rw [e1]
  exact if_pos c
theorem log_of {i : Int} (h : i.natAbs < 2 ^ 100) : i.natAbs.log2 < 100 := log_lt h (by decide)
theorem mul_of {i j : Int} (h : i.natAbs < 2 ^ 100) (h2 : j.natAbs < 2 ^ 100) : binop .Mult (.int i) (.int j) = some (.int (i * j)) := mul_int (by
  have := log_of h
  have := log_of h2
  omega)
theorem idx_r {m : Mu} {n : Nat} {xs : List D} (h : m[n]? = some xs) (i : Int) : idxD m (.ref n) (.int i) = atI xs i := by
  show (match m[n]? with | some xs => atI xs i | none => none) = _
  rw [h]
theorem idx_s (m : Mu) (ns : List Int) (i : Int) : idxD m (.scr ns) (.int i) = (atI ns i).map .int := rfl
theorem pow_int {i j : Int} (h : 0 ≤ j ∧ j ≤ 1000000 ∧ i.natAbs < 18446744073709551616) : binop .Pow (.int i) (.int j) = some (.int (i ^ j.toNat)) := if_pos (decide_eq_true h)
theorem pow18 : binop .Pow (.int 10) (.int 18) = some (.int 1000000000000000000) := pow_int (by decide)
theorem natAbs_if (i : Int) : (if i < 0 then -i else i) = (i.natAbs : Int) := by split <;> omega
/-- a store of pots: each holds two numbers, the second not too great -/
structure Pots (B : Int) (L : Nat) (m : Mu) : Prop where
  len : m.length = L
  each : ∀ l ∈ m, ∃ p0 p1 : Int, l = [.int p0, .int p1] ∧ 0 ≤ p0 ∧ 0 ≤ p1 ∧ p1 ≤ B
theorem Pots.get {B : Int} {L n : Nat} {m : Mu} (h : Pots B L m) (hn : n < L) : ∃ p0 p1 : Int, m[n]? = some [.int p0, .int p1] ∧ 0 ≤ p0 ∧ 0 ≤ p1 ∧ p1 ≤ B := by
  have hl : n < m.length := by rw [h.len]; exact hn
  obtain ⟨p0, p1, e, h1, h2, h3⟩ := h.each m[n] (List.getElem_mem hl)
  exact ⟨p0, p1, by rw [List.getElem?_eq_getElem hl, e], h1, h2, h3⟩
theorem Pots.set {B : Int} {L n : Nat} {m : Mu} (h : Pots B L m) {p0 p1 : Int} (h1 : 0 ≤ p0) (h2 : 0 ≤ p1) (h3 : p1 ≤ B) : Pots B L (m.set n [.int p0, .int p1]) :=
  ⟨by rw [List.length_set]; exact h.len, fun l hl => by
    rcases List.mem_or_eq_of_mem_set hl with z | z
    · exact h.each l z
    · exact ⟨p0, p1, z, h1, h2, h3⟩⟩
theorem Pots.add {B : Int} {L : Nat} {m : Mu} (h : Pots B L m) {p0 p1 : Int} (h1 : 0 ≤ p0) (h2 : 0 ≤ p1) (h3 : p1 ≤ B) : Pots B (L + 1) (m ++ [[.int p0, .int p1]]) :=
  ⟨by rw [List.length_append, h.len]; rfl, fun l hl => by
    rcases List.mem_append.mp hl with z | z
    · exact h.each l z
    · exact ⟨p0, p1, List.mem_singleton.mp z, h1, h2, h3⟩⟩
theorem Pots.nil (B : Int) : Pots B 0 [] := ⟨rfl, fun l hl => by cases hl⟩
theorem pairs_map {α β : Type} (f : α → D) (g : β → D) : ∀ (xs : List α) (ys : List β), pairs (xs.map f) (ys.map g) = (xs.zip ys).map fun q => .tup [f q.1, g q.2]
  | [], _ => rfl
  | _ :: _, [] => rfl
  | x :: xs, y :: ys => by
    rw [List.map_cons, List.map_cons, pairs, pairs_map f g xs ys]
    rfl
theorem items_zipL {α β : Type} (f : α → D) (g : β → D) (xs : List α) (ys : List β) : itemsD .zip [.lst (xs.map f), .lst (ys.map g)] = some ((xs.zip ys).map fun q => .tup [f q.1, g q.2]) := congrArg some (pairs_map f g xs ys)
theorem ints_cong {ls ks : List D} : True := trivial
/-- a law: all that is asked of each pot holds -/
theorem all_true {α : Type} (l : List α) (f : α → D) (h : ∀ a ∈ l, f a = .bl true) : b1op .all (.lst (l.map f)) = some (.bl true) := by
  have : l.map f = (l.map fun _ => true).map D.bl := by
    rw [List.map_map]
    exact List.map_congr_left fun a ha => h a ha
  rw [this, all_bls, List.all_map]
  congr 2
  exact List.all_eq_true.mpr fun _ _ => rfl
theorem all_true' (ys : List D) (h : ∀ y ∈ ys, y = .bl true) : b1op .all (.lst ys) = some (.bl true) := by
  have := all_true ys id h
  rw [List.map_id] at this
  exact this
end Mi

set_option linter.all false
set_option maxRecDepth 100000
set_option maxHeartbeats 4000000
namespace L89
open PySem PySem.Spec PyProof.Rows L2 Mi
def i_is_integer : Nat := 0
def i_is_within : Nat := 1
def i_is_list : Nat := 2
def i_want_at_most : Nat := 3
def i_is_table_of : Nat := 4
def i_check_table : Nat := 5
def i_number_by : Nat := 6
def i_lot_by : Nat := 7
def i_all_lots : Nat := 8
def i_lot_with : Nat := 9
def i_rest_of : Nat := 10
def i_worth_of : Nat := 11
def i_gain_of : Nat := 12
def i_renamed : Nat := 13
def i_does_break : Nat := 14
def i_first_break : Nat := 15
def i_first_fall : Nat := 16
def i_is_saying_of : Nat := 17
def i_check_saying : Nat := 18
def i_is_wide_of : Nat := 19
def i_is_good_of : Nat := 20
def i_sum_by : Nat := 21
def i_saying_by : Nat := 22
def i_plain_of : Nat := 23
def i_is_saying : Nat := 24
def i_is_good : Nat := 25
def i_sum_for : Nat := 26
def i_plain_sayings : Nat := 27
def i_saying_plus : Nat := 28
def i_saying_renamed : Nat := 29
def i__law_pot : Nat := 30
def i__law_draw : Nat := 31
def i__law_pick : Nat := 32
def i__law_lots : Nat := 33
def i__law_number : Nat := 34
def i__law_worth : Nat := 35
def i__law_with : Nat := 36
def i__law_is_less : Nat := 37
def i__law_less_table : Nat := 38
def i__law_plain_sayings : Nat := 39
def i__law_sum_for : Nat := 40
def i__law_is_good : Nat := 41
def i__law_saying : Nat := 42
def i__law_is_saying : Nat := 43
def i__law_right : Nat := 44
def i_law : Nat := 45
def g_MOST_THINGS : Nat := 0
def g_MOST_WORTH : Nat := 1
def g_POWERS : Nat := 2
def g_LEAST_THINGS : Nat := 3
def g_MOST_THINGS_SAID : Nat := 4
def g_MOST_NUMBER : Nat := 5
def g_MOST_THINGS_WIDE : Nat := 6
def f_is_integer : Fn := ⟨1, 1, (.cons (.ret (.and (.cons (.isa .int (.var 0)) (.cons (.not (.isa .bool (.var 0))) .nil)))) .nil)⟩
def f_is_within : Fn := ⟨3, 3, (.cons (.ret (.and (.cons (.call i_is_integer (.cons (.var 0) .nil)) (.cons (.cmp2 .LtE .LtE (.var 1) (.var 0) (.var 2)) .nil)))) .nil)⟩
def f_is_list : Fn := ⟨1, 1, (.cons (.ret (.isa .seq (.var 0))) .nil)⟩
def f_want_at_most : Fn := ⟨3, 3, (.cons (.cond (.cmp .Gt (.var 2) (.var 1)) (.cons (.raise 8 (.cons (.var 0) (.cons (.var 1) .nil))) .nil) .nil) .nil)⟩
def x_is_table_of_0 : Ex := .comp [(Str.ofString "one", 1)] (.call i_is_within (.cons (.var 1) (.cons (.op .Sub (.cst (.int 0)) (.glb g_MOST_WORTH)) (.cons (.glb g_MOST_WORTH) .nil)))) (.nm 1) .seq (.cons (.idx (.var 0) (.cst (.int 1))) .nil)
@[simp] theorem v_x_is_table_of_0 (r : List Slot) (m : Mu) (y : Res D) : vx r x_is_table_of_0 m y = y := rfl
def f_is_table_of : Fn := ⟨2, 1, (.cons (.cond (.or (.cons (.not (.isa .tuple (.var 0))) (.cons (.cmp .NotEq (.b1 .len (.var 0)) (.cst (.int 2))) (.cons (.not (.call i_is_within (.cons (.idx (.var 0) (.cst (.int 0))) (.cons (.cst (.int 1)) (.cons (.glb g_MOST_THINGS) .nil))))) .nil)))) (.cons (.ret (.cst (.bool false))) .nil) .nil) (.cons (.cond (.or (.cons (.not (.call i_is_list (.cons (.idx (.var 0) (.cst (.int 1))) .nil))) (.cons (.cmp .NotEq (.b1 .len (.idx (.var 0) (.cst (.int 1)))) (.idx (.glb g_POWERS) (.idx (.var 0) (.cst (.int 0))))) .nil))) (.cons (.ret (.cst (.bool false))) .nil) .nil) (.cons (.ret (.b1 .all x_is_table_of_0)) .nil)))⟩
def f_check_table : Fn := ⟨1, 1, (.cons (.cond (.not (.call i_is_table_of (.cons (.var 0) .nil))) (.cons (.raise 3 (.cons (.var 0) .nil)) .nil) .nil) .nil)⟩
def x_number_by_0 : Ex := .comp [(Str.ofString "thing", 1)] (.idx (.glb g_POWERS) (.var 1)) (.nm 1) .seq (.cons (.var 0) .nil)
@[simp] theorem v_x_number_by_0 (r : List Slot) (m : Mu) (y : Res D) : vx r x_number_by_0 m y = y := rfl
def f_number_by : Fn := ⟨2, 1, (.cons (.ret (.b1 .sum x_number_by_0)) .nil)⟩
def b_lot_by_0 : Stms := (.cons (.cond (.cmp .Eq (.op .Mod (.b1 .int (.var 0)) (.cst (.int 2))) (.cst (.int 1))) (.cons (.app 1 (.var 2)) .nil) .nil) (.cons (.par [0, 2] (.cons (.op .FloorDiv (.var 0) (.cst (.int 2))) (.cons (.op .Add (.var 2) (.cst (.int 1))) .nil)) []) .nil))
def f_lot_by : Fn := ⟨3, 1, (.cons (.par [1, 2] (.cons (.lst .nil) (.cons (.cst (.int 0)) .nil)) [1]) (.cons (.while_ (.cmp .Gt (.var 0) (.cst (.int 0))) b_lot_by_0) (.cons (.ret (.b1 .tuple (.view 1))) .nil)))⟩
def x_all_lots_0 : Ex := .comp [(Str.ofString "number", 1)] (.call i_lot_by (.cons (.var 1) .nil)) (.nm 1) .range1 (.cons (.idx (.glb g_POWERS) (.var 0)) .nil)
@[simp] theorem v_x_all_lots_0 (r : List Slot) (m : Mu) (y : Res D) : vx r x_all_lots_0 m y = y := rfl
def f_all_lots : Fn := ⟨2, 1, (.cons (.ret x_all_lots_0) .nil)⟩
def f_lot_with : Fn := ⟨2, 2, (.cons (.ret (.b1 .tuple (.b1 .sorted (.op .Add (.var 0) (.tup (.cons (.var 1) .nil)))))) .nil)⟩
def x_rest_of_0 : Ex := .compIf [(Str.ofString "thing", 2)] (.var 2) (.nm 2) .range1 (.cons (.var 0) .nil) (.cmp .NotIn (.var 2) (.var 1))
@[simp] theorem v_x_rest_of_0 (r : List Slot) (m : Mu) (y : Res D) : vx r x_rest_of_0 m y = y := rfl
def f_rest_of : Fn := ⟨3, 2, (.cons (.ret (.b1 .tuple x_rest_of_0)) .nil)⟩
def f_worth_of : Fn := ⟨2, 2, (.cons (.ret (.idx (.idx (.var 0) (.cst (.int 1))) (.call i_number_by (.cons (.var 1) .nil)))) .nil)⟩
def f_gain_of : Fn := ⟨3, 3, (.cons (.ret (.op .Sub (.call i_worth_of (.cons (.var 0) (.cons (.call i_lot_with (.cons (.var 1) (.cons (.var 2) .nil))) .nil))) (.call i_worth_of (.cons (.var 0) (.cons (.var 1) .nil))))) .nil)⟩
def x_renamed_0 : Ex := .comp [(Str.ofString "one", 4)] (.call i_is_within (.cons (.var 4) (.cons (.cst (.int 0)) (.cons (.op .Sub (.idx (.var 0) (.cst (.int 0))) (.cst (.int 1))) .nil)))) (.nm 4) .seq (.cons (.var 1) .nil)
@[simp] theorem v_x_renamed_0 (r : List Slot) (m : Mu) (y : Res D) : vx r x_renamed_0 m y = y := rfl
def x_renamed_1 : Ex := .comp [(Str.ofString "thing", 5)] (.idx (.var 1) (.var 5)) (.nm 5) .seq (.cons (.var 3) .nil)
@[simp] theorem v_x_renamed_1 (r : List Slot) (m : Mu) (y : Res D) : vx r x_renamed_1 m y = y := rfl
def b_renamed_0 : Stms := (.cons (.seti 2 (.call i_number_by (.cons x_renamed_1 .nil)) (.var 4)) .nil)
def t_renamed_6 : Stms := .cons (.ret (.tup (.cons (.idx (.var 0) (.cst (.int 0))) (.cons (.var 2) .nil)))) .nil
def t_renamed_5 : Stms := .cons (.frz 2) t_renamed_6
def t_renamed_4 : Stms := .cons (.for_ (.tp [3, 4]) .zip (.cons (.call i_all_lots (.cons (.idx (.var 0) (.cst (.int 0))) .nil)) (.cons (.idx (.var 0) (.cst (.int 1))) .nil)) b_renamed_0) t_renamed_5
def t_renamed_3 : Stms := .cons (.seto 2 (.op .Mult (.lst (.cons (.cst (.int 0)) .nil)) (.b1 .len (.idx (.var 0) (.cst (.int 1)))))) t_renamed_4
def t_renamed_2 : Stms := .cons (.cond (.or (.cons (.not (.b1 .all x_renamed_0)) (.cons (.cmp .NotEq (.sp .lenSet (.var 1)) (.b1 .len (.var 1))) .nil))) (.cons (.raise 5 (.cons (.var 1) .nil)) .nil) .nil) t_renamed_3
def t_renamed_1 : Stms := .cons (.cond (.or (.cons (.not (.isa .tuple (.var 1))) (.cons (.cmp .NotEq (.b1 .len (.var 1)) (.idx (.var 0) (.cst (.int 0)))) .nil))) (.cons (.raise 5 (.cons (.var 1) .nil)) .nil) .nil) t_renamed_2
def t_renamed_0 : Stms := .cons (.drop (.call i_check_table (.cons (.var 0) .nil))) t_renamed_1
def f_renamed : Fn := ⟨6, 2, t_renamed_0⟩
def f_does_break : Fn := ⟨4, 4, (.cons (.ret (.cmp .Gt (.call i_gain_of (.cons (.var 0) (.cons (.call i_lot_with (.cons (.var 1) (.cons (.var 3) .nil))) (.cons (.var 2) .nil)))) (.call i_gain_of (.cons (.var 0) (.cons (.var 1) (.cons (.var 2) .nil)))))) .nil)⟩
def b_first_break_0 : Stms := (.cons (.cond (.call i_does_break (.cons (.var 0) (.cons (.var 1) (.cons (.var 4) (.cons (.var 5) .nil))))) (.cons (.ret (.tup (.cons (.var 1) (.cons (.var 4) (.cons (.var 5) .nil))))) .nil) .nil) .nil)
def b_first_break_1 : Stms := (.cons (.for_ (.nm 5) .seq (.cons (.slL (.var 2) (.op .Add (.var 3) (.cst (.int 1)))) .nil) b_first_break_0) .nil)
def b_first_break_2 : Stms := (.cons (.set 2 (.call i_rest_of (.cons (.idx (.var 0) (.cst (.int 0))) (.cons (.var 1) .nil)))) (.cons (.for_ (.tp [3, 4]) .enum (.cons (.var 2) .nil) b_first_break_1) .nil))
def f_first_break : Fn := ⟨6, 1, (.cons (.for_ (.nm 1) .seq (.cons (.call i_all_lots (.cons (.idx (.var 0) (.cst (.int 0))) .nil)) .nil) b_first_break_2) (.cons (.ret (.cst .none)) .nil))⟩
def b_first_fall_0 : Stms := (.cons (.cond (.cmp .Lt (.call i_gain_of (.cons (.var 0) (.cons (.var 1) (.cons (.var 2) .nil)))) (.cst (.int 0))) (.cons (.ret (.tup (.cons (.var 1) (.cons (.var 2) .nil)))) .nil) .nil) .nil)
def b_first_fall_1 : Stms := (.cons (.for_ (.nm 2) .seq (.cons (.call i_rest_of (.cons (.idx (.var 0) (.cst (.int 0))) (.cons (.var 1) .nil))) .nil) b_first_fall_0) .nil)
def f_first_fall : Fn := ⟨3, 1, (.cons (.for_ (.nm 1) .seq (.cons (.call i_all_lots (.cons (.idx (.var 0) (.cst (.int 0))) .nil)) .nil) b_first_fall_1) (.cons (.ret (.cst .none)) .nil))⟩
def x_is_saying_of_0 : Ex := .comp [(Str.ofString "one", 1)] (.call i_is_within (.cons (.var 1) (.cons (.op .Sub (.cst (.int 0)) (.glb g_MOST_NUMBER)) (.cons (.glb g_MOST_NUMBER) .nil)))) (.nm 1) .seq (.cons (.idx (.var 0) (.cst (.int 1))) .nil)
@[simp] theorem v_x_is_saying_of_0 (r : List Slot) (m : Mu) (y : Res D) : vx r x_is_saying_of_0 m y = y := rfl
def f_is_saying_of : Fn := ⟨2, 1, (.cons (.cond (.or (.cons (.not (.isa .tuple (.var 0))) (.cons (.cmp .NotEq (.b1 .len (.var 0)) (.cst (.int 2))) (.cons (.not (.call i_is_within (.cons (.idx (.var 0) (.cst (.int 0))) (.cons (.glb g_LEAST_THINGS) (.cons (.glb g_MOST_THINGS_SAID) .nil))))) .nil)))) (.cons (.ret (.cst (.bool false))) .nil) .nil) (.cons (.cond (.or (.cons (.not (.call i_is_list (.cons (.idx (.var 0) (.cst (.int 1))) .nil))) (.cons (.cmp .NotEq (.b1 .len (.idx (.var 0) (.cst (.int 1)))) (.idx (.glb g_POWERS) (.idx (.var 0) (.cst (.int 0))))) .nil))) (.cons (.ret (.cst (.bool false))) .nil) .nil) (.cons (.ret (.b1 .all x_is_saying_of_0)) .nil)))⟩
def f_check_saying : Fn := ⟨1, 1, (.cons (.cond (.not (.call i_is_saying_of (.cons (.var 0) .nil))) (.cons (.raise 6 (.cons (.var 0) .nil)) .nil) .nil) .nil)⟩
def x_is_wide_of_0 : Ex := .comp [(Str.ofString "one", 1)] (.call i_is_integer (.cons (.var 1) .nil)) (.nm 1) .seq (.cons (.idx (.var 0) (.cst (.int 1))) .nil)
@[simp] theorem v_x_is_wide_of_0 (r : List Slot) (m : Mu) (y : Res D) : vx r x_is_wide_of_0 m y = y := rfl
def f_is_wide_of : Fn := ⟨2, 1, (.cons (.cond (.or (.cons (.not (.isa .tuple (.var 0))) (.cons (.cmp .NotEq (.b1 .len (.var 0)) (.cst (.int 2))) (.cons (.not (.call i_is_within (.cons (.idx (.var 0) (.cst (.int 0))) (.cons (.cst (.int 1)) (.cons (.glb g_MOST_THINGS_WIDE) .nil))))) .nil)))) (.cons (.ret (.cst (.bool false))) .nil) .nil) (.cons (.ret (.and (.cons (.call i_is_list (.cons (.idx (.var 0) (.cst (.int 1))) .nil)) (.cons (.cmp .Eq (.b1 .len (.idx (.var 0) (.cst (.int 1)))) (.idx (.glb g_POWERS) (.idx (.var 0) (.cst (.int 0))))) (.cons (.b1 .all x_is_wide_of_0) .nil))))) .nil))⟩
def f_is_good_of : Fn := ⟨1, 1, (.cons (.cond (.or (.cons (.not (.call i_is_wide_of (.cons (.var 0) .nil))) (.cons (.cmp .NotEq (.idx (.idx (.var 0) (.cst (.int 1))) (.cst (.int 0))) (.cst (.int 0))) .nil))) (.cons (.ret (.cst (.bool false))) .nil) .nil) (.cons (.ret (.and (.cons (.cmp .Is (.call i_first_fall (.cons (.var 0) .nil)) (.cst .none)) (.cons (.cmp .Is (.call i_first_break (.cons (.var 0) .nil)) (.cst .none)) .nil)))) .nil))⟩
def x_sum_by_0 : Ex := .comp [(Str.ofString "number", 2), (Str.ofString "one", 3)] (.op .Mult (.var 2) (.var 3)) (.tp [2, 3]) .zip (.cons (.idx (.var 0) (.cst (.int 1))) (.cons (.idx (.var 1) (.cst (.int 1))) .nil))
@[simp] theorem v_x_sum_by_0 (r : List Slot) (m : Mu) (y : Res D) : vx r x_sum_by_0 m y = y := rfl
def f_sum_by : Fn := ⟨4, 2, (.cons (.ret (.b1 .sum x_sum_by_0)) .nil)⟩
def b_saying_by_0 : Stms := (.cons (.seti 2 (.call i_number_by (.cons (.var 3) .nil)) (.var 4)) .nil)
def f_saying_by : Fn := ⟨5, 2, (.cons (.seto 2 (.op .Mult (.lst (.cons (.cst (.int 0)) .nil)) (.idx (.glb g_POWERS) (.var 0)))) (.cons (.for_ (.tp [3, 4]) .seq (.cons (.var 1) .nil) b_saying_by_0) (.cons (.frz 2) (.cons (.ret (.tup (.cons (.var 0) (.cons (.var 2) .nil)))) .nil))))⟩
def b_plain_of_0 : Stms := (.cons (.app 4 (.call i_saying_by (.cons (.var 0) (.cons (.lst (.cons (.tup (.cons (.var 3) (.cons (.cst (.int 1)) .nil))) (.cons (.tup (.cons (.call i_rest_of (.cons (.var 0) (.cons (.tup (.cons (.var 1) .nil)) .nil))) (.cons (.neg (.cst (.int 1))) .nil))) .nil))) .nil)))) .nil)
def b_plain_of_1 : Stms := (.cons (.par [8, 9] (.cons (.call i_lot_with (.cons (.var 2) (.cons (.var 1) .nil))) (.cons (.call i_lot_with (.cons (.var 2) (.cons (.var 7) .nil))) .nil)) []) (.cons (.app 4 (.call i_saying_by (.cons (.var 0) (.cons (.lst (.cons (.tup (.cons (.var 8) (.cons (.cst (.int 1)) .nil))) (.cons (.tup (.cons (.var 9) (.cons (.cst (.int 1)) .nil))) (.cons (.tup (.cons (.var 2) (.cons (.neg (.cst (.int 1))) .nil))) (.cons (.tup (.cons (.call i_lot_with (.cons (.var 8) (.cons (.var 7) .nil))) (.cons (.neg (.cst (.int 1))) .nil))) .nil))))) .nil)))) .nil))
def b_plain_of_2 : Stms := (.cons (.for_ (.nm 7) .seq (.cons (.slL (.var 5) (.op .Add (.var 6) (.cst (.int 1)))) .nil) b_plain_of_1) .nil)
def b_plain_of_3 : Stms := (.cons (.set 5 (.call i_rest_of (.cons (.var 0) (.cons (.var 2) .nil)))) (.cons (.for_ (.tp [6, 1]) .enum (.cons (.var 5) .nil) b_plain_of_2) .nil))
def t_plain_of_4 : Stms := .cons (.ret (.var 4)) .nil
def t_plain_of_3 : Stms := .cons (.frz 4) t_plain_of_4
def t_plain_of_2 : Stms := .cons (.for_ (.nm 2) .seq (.cons (.call i_all_lots (.cons (.var 0) .nil)) .nil) b_plain_of_3) t_plain_of_3
def t_plain_of_1 : Stms := .cons (.for_ (.nm 1) .range1 (.cons (.var 0) .nil) b_plain_of_0) t_plain_of_2
def t_plain_of_0 : Stms := .cons (.par [3, 4] (.cons (.sp .tupRange (.var 0)) (.cons (.lst .nil) .nil)) [4]) t_plain_of_1
def f_plain_of : Fn := ⟨10, 1, t_plain_of_0⟩
def f_is_saying : Fn := ⟨1, 1, (.cons (.ret (.call i_is_saying_of (.cons (.var 0) .nil))) .nil)⟩
def f_is_good : Fn := ⟨1, 1, (.cons (.ret (.call i_is_good_of (.cons (.var 0) .nil))) .nil)⟩
def f_sum_for : Fn := ⟨2, 2, (.cons (.drop (.call i_check_saying (.cons (.var 0) .nil))) (.cons (.drop (.call i_check_table (.cons (.var 1) .nil))) (.cons (.cond (.cmp .NotEq (.idx (.var 0) (.cst (.int 0))) (.idx (.var 1) (.cst (.int 0)))) (.cons (.raise 7 .nil) .nil) .nil) (.cons (.ret (.call i_sum_by (.cons (.var 0) (.cons (.var 1) .nil)))) .nil))))⟩
def f_plain_sayings : Fn := ⟨1, 1, (.cons (.cond (.not (.call i_is_within (.cons (.var 0) (.cons (.glb g_LEAST_THINGS) (.cons (.glb g_MOST_THINGS_SAID) .nil))))) (.cons (.raise 4 (.cons (.var 0) .nil)) .nil) .nil) (.cons (.ret (.call i_plain_of (.cons (.var 0) .nil))) .nil))⟩
def x_saying_plus_0 : Ex := .comp [(Str.ofString "one", 3), (Str.ofString "late", 4)] (.op .Add (.var 3) (.var 4)) (.tp [3, 4]) .zip (.cons (.idx (.var 0) (.cst (.int 1))) (.cons (.idx (.var 1) (.cst (.int 1))) .nil))
@[simp] theorem v_x_saying_plus_0 (r : List Slot) (m : Mu) (y : Res D) : vx r x_saying_plus_0 m y = y := rfl
def x_saying_plus_1 : Ex := .comp [(Str.ofString "one", 3)] (.b1 .abs (.var 3)) (.nm 3) .seq (.cons (.var 2) .nil)
@[simp] theorem v_x_saying_plus_1 (r : List Slot) (m : Mu) (y : Res D) : vx r x_saying_plus_1 m y = y := rfl
def t_saying_plus_5 : Stms := .cons (.ret (.tup (.cons (.idx (.var 0) (.cst (.int 0))) (.cons (.var 2) .nil)))) .nil
def t_saying_plus_4 : Stms := .cons (.drop (.call i_want_at_most (.cons (.cst (.str (Str.ofString "numbers"))) (.cons (.glb g_MOST_NUMBER) (.cons (.b1 .max x_saying_plus_1) .nil))))) t_saying_plus_5
def t_saying_plus_3 : Stms := .cons (.set 2 x_saying_plus_0) t_saying_plus_4
def t_saying_plus_2 : Stms := .cons (.cond (.cmp .NotEq (.idx (.var 0) (.cst (.int 0))) (.idx (.var 1) (.cst (.int 0)))) (.cons (.raise 7 .nil) .nil) .nil) t_saying_plus_3
def t_saying_plus_1 : Stms := .cons (.drop (.call i_check_saying (.cons (.var 1) .nil))) t_saying_plus_2
def t_saying_plus_0 : Stms := .cons (.drop (.call i_check_saying (.cons (.var 0) .nil))) t_saying_plus_1
def f_saying_plus : Fn := ⟨5, 2, t_saying_plus_0⟩
def x_saying_renamed_0 : Ex := .comp [(Str.ofString "one", 4)] (.call i_is_within (.cons (.var 4) (.cons (.cst (.int 0)) (.cons (.op .Sub (.var 2) (.cst (.int 1))) .nil)))) (.nm 4) .seq (.cons (.var 1) .nil)
@[simp] theorem v_x_saying_renamed_0 (r : List Slot) (m : Mu) (y : Res D) : vx r x_saying_renamed_0 m y = y := rfl
def x_saying_renamed_1 : Ex := .comp [(Str.ofString "thing", 5)] (.idx (.var 1) (.var 5)) (.nm 5) .seq (.cons (.var 3) .nil)
@[simp] theorem v_x_saying_renamed_1 (r : List Slot) (m : Mu) (y : Res D) : vx r x_saying_renamed_1 m y = y := rfl
def x_saying_renamed_2 : Ex := .comp [(Str.ofString "lot", 3), (Str.ofString "one", 4)] (.tup (.cons x_saying_renamed_1 (.cons (.var 4) .nil))) (.tp [3, 4]) .zip (.cons (.call i_all_lots (.cons (.var 2) .nil)) (.cons (.idx (.var 0) (.cst (.int 1))) .nil))
@[simp] theorem v_x_saying_renamed_2 (r : List Slot) (m : Mu) (y : Res D) : vx r x_saying_renamed_2 m y = y := rfl
def t_saying_renamed_4 : Stms := .cons (.ret (.call i_saying_by (.cons (.var 2) (.cons x_saying_renamed_2 .nil)))) .nil
def t_saying_renamed_3 : Stms := .cons (.cond (.cmp .NotEq (.sp .lenSet (.var 1)) (.var 2)) (.cons (.raise 5 (.cons (.var 1) .nil)) .nil) .nil) t_saying_renamed_4
def t_saying_renamed_2 : Stms := .cons (.cond (.or (.cons (.not (.isa .tuple (.var 1))) (.cons (.cmp .NotEq (.b1 .len (.var 1)) (.var 2)) (.cons (.not (.b1 .all x_saying_renamed_0)) .nil)))) (.cons (.raise 5 (.cons (.var 1) .nil)) .nil) .nil) t_saying_renamed_3
def t_saying_renamed_1 : Stms := .cons (.set 2 (.idx (.var 0) (.cst (.int 0)))) t_saying_renamed_2
def t_saying_renamed_0 : Stms := .cons (.drop (.call i_check_saying (.cons (.var 0) .nil))) t_saying_renamed_1
def f_saying_renamed : Fn := ⟨6, 2, t_saying_renamed_0⟩
def f__law_pot : Fn := ⟨3, 2, (.cons (.set 2 (.ite (.cmp .Lt (.var 1) (.b1 .len (.var 0))) (.b1 .abs (.idx (.var 0) (.var 1))) (.op .Add (.op .Mult (.cst (.int 2693)) (.var 1)) (.cst (.int 2182))))) (.cons (.retr (.cons (.b2 .max (.cst (.int 0)) (.op .Sub (.var 2) (.op .Pow (.cst (.int 10)) (.cst (.int 18))))) (.cons (.op .Add (.op .Mod (.b1 .int (.op .Add (.op .Add (.op .Mult (.op .Mod (.b1 .int (.var 2)) (.cst (.int 2147483549))) (.cst (.int 44357))) (.op .Mult (.cst (.int 1259)) (.var 1))) (.cst (.int 23446)))) (.cst (.int 2147483579))) (.cst (.int 1))) .nil))) .nil))⟩
def f__law_draw : Fn := ⟨3, 2, (.cons (.cond (.cmp .Gt (.idx (.var 0) (.cst (.int 0))) (.cst (.int 0))) (.cons (.setrp 0 0 2 (.b2 .divmod (.idx (.var 0) (.cst (.int 0))) (.var 1))) (.cons (.ret (.var 2)) .nil)) .nil) (.cons (.setr 0 1 (.op .Mod (.b1 .int (.op .Add (.op .Mult (.idx (.var 0) (.cst (.int 1))) (.cst (.int 44357))) (.cst (.int 1259)))) (.cst (.int 2147483629)))) (.cons (.ret (.op .Mod (.b1 .int (.op .FloorDiv (.op .Mod (.b1 .int (.op .Mult (.idx (.var 0) (.cst (.int 1))) (.idx (.var 0) (.cst (.int 1))))) (.cst (.int 2147483587))) (.cst (.int 13)))) (.var 1))) .nil)))⟩
def f__law_pick : Fn := ⟨2, 2, (.cons (.ret (.idx (.var 1) (.call i__law_draw (.cons (.var 0) (.cons (.b1 .len (.var 1)) .nil))))) .nil)⟩
def x__law_lots_0 : Ex := .comp [(Str.ofString "lot", 3)] (.op .Add (.var 3) (.tup (.cons (.var 2) .nil))) (.nm 3) .seq (.cons (.var 1) .nil)
@[simp] theorem v_x__law_lots_0 (r : List Slot) (m : Mu) (y : Res D) : vx r x__law_lots_0 m y = y := rfl
def b__law_lots_0 : Stms := (.cons (.set 1 (.op .Add (.var 1) x__law_lots_0)) .nil)
def f__law_lots : Fn := ⟨4, 1, (.cons (.set 1 (.lst (.cons (.tup .nil) .nil))) (.cons (.for_ (.nm 2) .range1 (.cons (.var 0) .nil) b__law_lots_0) (.cons (.ret (.var 1)) .nil)))⟩
def b__law_number_0 : Stms := (.cons (.set 3 (.op .Mult (.cst (.int 2)) (.var 3))) .nil)
def b__law_number_1 : Stms := (.cons (.set 3 (.cst (.int 1))) (.cons (.for_ (.nm 4) .range1 (.cons (.var 2) .nil) b__law_number_0) (.cons (.set 1 (.op .Add (.var 1) (.var 3))) .nil)))
def f__law_number : Fn := ⟨5, 1, (.cons (.set 1 (.cst (.int 0))) (.cons (.for_ (.nm 2) .seq (.cons (.var 0) .nil) b__law_number_1) (.cons (.ret (.var 1)) .nil)))⟩
def f__law_worth : Fn := ⟨2, 2, (.cons (.ret (.idx (.idx (.var 0) (.cst (.int 1))) (.call i__law_number (.cons (.var 1) .nil)))) .nil)⟩
def f__law_with : Fn := ⟨2, 2, (.cons (.ret (.b1 .tuple (.b1 .sorted (.op .Add (.var 0) (.tup (.cons (.var 1) .nil)))))) .nil)⟩
def x__law_is_less_0 : Ex := .compIf [(Str.ofString "thing", 4)] (.var 4) (.nm 4) .range1 (.cons (.idx (.var 0) (.cst (.int 0))) .nil) (.cmp .NotIn (.var 4) (.var 1))
@[simp] theorem v_x__law_is_less_0 (r : List Slot) (m : Mu) (y : Res D) : vx r x__law_is_less_0 m y = y := rfl
def b__law_is_less_0 : Stms := (.cons (.set 6 (.op .Add (.call i__law_worth (.cons (.var 0) (.cons (.var 1) .nil))) (.call i__law_worth (.cons (.var 0) (.cons (.call i__law_with (.cons (.call i__law_with (.cons (.var 1) (.cons (.var 4) .nil))) (.cons (.var 5) .nil))) .nil))))) (.cons (.cond (.cmp .Lt (.op .Add (.call i__law_worth (.cons (.var 0) (.cons (.call i__law_with (.cons (.var 1) (.cons (.var 4) .nil))) .nil))) (.call i__law_worth (.cons (.var 0) (.cons (.call i__law_with (.cons (.var 1) (.cons (.var 5) .nil))) .nil)))) (.var 6)) (.cons (.ret (.cst (.bool false))) .nil) .nil) .nil))
def b__law_is_less_1 : Stms := (.cons (.for_ (.nm 5) .seq (.cons (.slH (.var 2) (.var 3)) .nil) b__law_is_less_0) .nil)
def b__law_is_less_2 : Stms := (.cons (.set 2 x__law_is_less_0) (.cons (.for_ (.tp [3, 4]) .enum (.cons (.var 2) .nil) b__law_is_less_1) .nil))
def f__law_is_less : Fn := ⟨7, 1, (.cons (.for_ (.nm 1) .seq (.cons (.call i__law_lots (.cons (.idx (.var 0) (.cst (.int 0))) .nil)) .nil) b__law_is_less_2) (.cons (.ret (.cst (.bool true))) .nil))⟩
def x__law_less_table_0 : Ex := .comp [(Str.ofString "thing", 12)] (.call i__law_draw (.cons (.var 0) (.cons (.cst (.int 2)) .nil))) (.nm 12) .range1 (.cons (.var 1) .nil)
@[simp] theorem v_x__law_less_table_0 (r : List Slot) (m : Mu) (y : Res D) : vx r x__law_less_table_0 m y = y := rfl
def x__law_less_table_1 : Ex := .comp [(Str.ofString "point", 10)] x__law_less_table_0 (.nm 10) .range1 (.cons (.call i__law_draw (.cons (.var 0) (.cons (.cst (.int 4)) .nil))) .nil)
@[simp] theorem v_x__law_less_table_1 (r : List Slot) (m : Mu) (y : Res D) : vx r x__law_less_table_1 m y = y := rfl
def x__law_less_table_2 : Ex := .comp [(Str.ofString "turn", 11)] (.tup (.cons (.call i__law_draw (.cons (.var 0) (.cons (.var 1) .nil))) (.cons (.call i__law_draw (.cons (.var 0) (.cons (.var 1) .nil))) (.cons (.call i__law_draw (.cons (.var 0) (.cons (.cst (.int 4)) .nil))) .nil)))) (.nm 11) .range1 (.cons (.call i__law_draw (.cons (.var 0) (.cons (.cst (.int 5)) .nil))) .nil)
@[simp] theorem v_x__law_less_table_2 (r : List Slot) (m : Mu) (y : Res D) : vx r x__law_less_table_2 m y = y := rfl
def x__law_less_table_3 : Ex := .comp [(Str.ofString "thing", 12)] (.op .Sub (.call i__law_draw (.cons (.var 0) (.cons (.cst (.int 9)) .nil))) (.cst (.int 4))) (.nm 12) .range1 (.cons (.var 1) .nil)
@[simp] theorem v_x__law_less_table_3 (r : List Slot) (m : Mu) (y : Res D) : vx r x__law_less_table_3 m y = y := rfl
def x__law_less_table_4 : Ex := .comp [(Str.ofString "thing", 12)] (.idx (.var 6) (.var 12)) (.nm 12) .seq (.cons (.var 5) .nil)
@[simp] theorem v_x__law_less_table_4 (r : List Slot) (m : Mu) (y : Res D) : vx r x__law_less_table_4 m y = y := rfl
def x__law_less_table_5 : Ex := .comp [(Str.ofString "thing", 12)] (.cmp .Eq (.idx (.var 13) (.var 12)) (.cst (.int 1))) (.nm 12) .seq (.cons (.var 5) .nil)
@[simp] theorem v_x__law_less_table_5 (r : List Slot) (m : Mu) (y : Res D) : vx r x__law_less_table_5 m y = y := rfl
def x__law_less_table_6 : Ex := .compIf [(Str.ofString "cover", 13)] (.cst (.int 3)) (.nm 13) .seq (.cons (.var 2) .nil) (.b1 .any x__law_less_table_5)
@[simp] theorem v_x__law_less_table_6 (r : List Slot) (m : Mu) (y : Res D) : vx r x__law_less_table_6 m y = y := rfl
def x__law_less_table_7 : Ex := .compIf [(Str.ofString "one", 14), (Str.ofString "late", 15), (Str.ofString "much", 16)] (.var 16) (.tp [14, 15, 16]) .seq (.cons (.var 3) .nil) (.and (.cons (.cmp .In (.var 14) (.var 5)) (.cons (.cmp .NotIn (.var 15) (.var 5)) .nil)))
@[simp] theorem v_x__law_less_table_7 (r : List Slot) (m : Mu) (y : Res D) : vx r x__law_less_table_7 m y = y := rfl
def b__law_less_table_0 : Stms := (.cons (.set 9 (.op .Sub (.op .Add (.var 7) (.b1 .sum x__law_less_table_4)) (.op .Mult (.op .Mult (.var 8) (.b1 .len (.var 5))) (.b1 .len (.var 5))))) (.cons (.set 9 (.op .Add (.var 9) (.b1 .sum x__law_less_table_6))) (.cons (.app 4 (.op .Add (.var 9) (.b1 .sum x__law_less_table_7))) .nil)))
def t__law_less_table_6 : Stms := .cons (.ret (.tup (.cons (.var 1) (.cons (.var 4) .nil)))) .nil
def t__law_less_table_5 : Stms := .cons (.frz 4) t__law_less_table_6
def t__law_less_table_4 : Stms := .cons (.for_ (.nm 5) .seq (.cons (.call i__law_lots (.cons (.var 1) .nil)) .nil) b__law_less_table_0) t__law_less_table_5
def t__law_less_table_3 : Stms := .cons (.seto 4 (.lst .nil)) t__law_less_table_4
def t__law_less_table_2 : Stms := .cons (.par [6, 7, 8] (.cons x__law_less_table_3 (.cons (.op .Sub (.call i__law_draw (.cons (.var 0) (.cons (.cst (.int 7)) .nil))) (.cst (.int 3))) (.cons (.call i__law_draw (.cons (.var 0) (.cons (.cst (.int 3)) .nil))) .nil))) []) t__law_less_table_3
def t__law_less_table_1 : Stms := .cons (.set 3 x__law_less_table_2) t__law_less_table_2
def t__law_less_table_0 : Stms := .cons (.set 2 x__law_less_table_1) t__law_less_table_1
def f__law_less_table : Fn := ⟨17, 2, t__law_less_table_0⟩
def x__law_plain_sayings_0 : Ex := .compIf [(Str.ofString "one", 11)] (.var 11) (.nm 11) .range1 (.cons (.var 0) .nil) (.cmp .NotEq (.var 11) (.var 1))
@[simp] theorem v_x__law_plain_sayings_0 (r : List Slot) (m : Mu) (y : Res D) : vx r x__law_plain_sayings_0 m y = y := rfl
def b__law_plain_sayings_0 : Stms := (.cons (.seto 5 (.op .Mult (.lst (.cons (.cst (.int 0)) .nil)) (.b1 .len (.var 3)))) (.cons (.seti 5 (.neg (.cst (.int 1))) (.cst (.int 1))) (.cons (.seti 5 (.call i__law_number (.cons (.b1 .tuple x__law_plain_sayings_0) .nil)) (.neg (.cst (.int 1)))) (.cons (.frz 5) (.cons (.app 4 (.tup (.cons (.var 0) (.cons (.var 5) .nil)))) .nil)))))
def x__law_plain_sayings_1 : Ex := .compIf [(Str.ofString "thing", 1)] (.var 1) (.nm 1) .range1 (.cons (.var 0) .nil) (.cmp .NotIn (.var 1) (.var 2))
@[simp] theorem v_x__law_plain_sayings_1 (r : List Slot) (m : Mu) (y : Res D) : vx r x__law_plain_sayings_1 m y = y := rfl
def b__law_plain_sayings_1 : Stms := (.cons (.seti 5 (.call i__law_number (.cons (.var 9) .nil)) (.var 10)) .nil)
def b__law_plain_sayings_2 : Stms := (.cons (.seto 5 (.op .Mult (.lst (.cons (.cst (.int 0)) .nil)) (.b1 .len (.var 3)))) (.cons (.for_ (.tp [9, 10]) .seq (.cons (.lst (.cons (.tup (.cons (.var 2) (.cons (.neg (.cst (.int 1))) .nil))) (.cons (.tup (.cons (.op .Add (.var 2) (.tup (.cons (.var 1) .nil))) (.cons (.cst (.int 1)) .nil))) (.cons (.tup (.cons (.op .Add (.var 2) (.tup (.cons (.var 8) .nil))) (.cons (.cst (.int 1)) .nil))) (.cons (.tup (.cons (.op .Add (.var 2) (.tup (.cons (.var 1) (.cons (.var 8) .nil)))) (.cons (.neg (.cst (.int 1))) .nil))) .nil))))) .nil) b__law_plain_sayings_1) (.cons (.frz 5) (.cons (.app 4 (.tup (.cons (.var 0) (.cons (.var 5) .nil)))) .nil))))
def b__law_plain_sayings_3 : Stms := (.cons (.for_ (.nm 8) .seq (.cons (.slL (.var 6) (.op .Add (.var 7) (.cst (.int 1)))) .nil) b__law_plain_sayings_2) .nil)
def b__law_plain_sayings_4 : Stms := (.cons (.set 6 x__law_plain_sayings_1) (.cons (.for_ (.tp [7, 1]) .enum (.cons (.var 6) .nil) b__law_plain_sayings_3) .nil))
def t__law_plain_sayings_4 : Stms := .cons (.ret (.var 4)) .nil
def t__law_plain_sayings_3 : Stms := .cons (.frz 4) t__law_plain_sayings_4
def t__law_plain_sayings_2 : Stms := .cons (.for_ (.nm 2) .seq (.cons (.var 3) .nil) b__law_plain_sayings_4) t__law_plain_sayings_3
def t__law_plain_sayings_1 : Stms := .cons (.for_ (.nm 1) .range1 (.cons (.var 0) .nil) b__law_plain_sayings_0) t__law_plain_sayings_2
def t__law_plain_sayings_0 : Stms := .cons (.par [3, 4] (.cons (.call i__law_lots (.cons (.var 0) .nil)) (.cons (.lst .nil) .nil)) [4]) t__law_plain_sayings_1
def f__law_plain_sayings : Fn := ⟨12, 1, t__law_plain_sayings_0⟩
def x__law_sum_for_0 : Ex := .comp [(Str.ofString "number", 2), (Str.ofString "worth", 3)] (.op .Mult (.var 2) (.var 3)) (.tp [2, 3]) .zip (.cons (.idx (.var 0) (.cst (.int 1))) (.cons (.idx (.var 1) (.cst (.int 1))) .nil))
@[simp] theorem v_x__law_sum_for_0 (r : List Slot) (m : Mu) (y : Res D) : vx r x__law_sum_for_0 m y = y := rfl
def f__law_sum_for : Fn := ⟨4, 2, (.cons (.ret (.b1 .sum x__law_sum_for_0)) .nil)⟩
def x__law_is_good_0 : Ex := .comp [(Str.ofString "one", 5)] (.and (.cons (.isa .int (.var 5)) (.cons (.not (.isa .bool (.var 5))) .nil))) (.nm 5) .seq (.cons (.idx (.var 0) (.cst (.int 1))) .nil)
@[simp] theorem v_x__law_is_good_0 (r : List Slot) (m : Mu) (y : Res D) : vx r x__law_is_good_0 m y = y := rfl
def x__law_is_good_1 : Ex := .compIf [(Str.ofString "thing", 4)] (.var 4) (.nm 4) .range1 (.cons (.idx (.var 0) (.cst (.int 0))) .nil) (.cmp .NotIn (.var 4) (.var 2))
@[simp] theorem v_x__law_is_good_1 (r : List Slot) (m : Mu) (y : Res D) : vx r x__law_is_good_1 m y = y := rfl
def x__law_is_good_2 : Ex := .comp [(Str.ofString "thing", 4)] (.cmp .Lt (.call i__law_worth (.cons (.var 1) (.cons (.call i__law_with (.cons (.var 2) (.cons (.var 4) .nil))) .nil))) (.call i__law_worth (.cons (.var 1) (.cons (.var 2) .nil)))) (.nm 4) .seq (.cons (.var 3) .nil)
@[simp] theorem v_x__law_is_good_2 (r : List Slot) (m : Mu) (y : Res D) : vx r x__law_is_good_2 m y = y := rfl
def b__law_is_good_0 : Stms := (.cons (.set 3 x__law_is_good_1) (.cons (.cond (.b1 .any x__law_is_good_2) (.cons (.ret (.cst (.bool false))) .nil) .nil) .nil))
def t__law_is_good_5 : Stms := .cons (.ret (.call i__law_is_less (.cons (.var 1) .nil))) .nil
def t__law_is_good_4 : Stms := .cons (.for_ (.nm 2) .seq (.cons (.call i__law_lots (.cons (.idx (.var 0) (.cst (.int 0))) .nil)) .nil) b__law_is_good_0) t__law_is_good_5
def t__law_is_good_3 : Stms := .cons (.set 1 (.tup (.cons (.idx (.var 0) (.cst (.int 0))) (.cons (.b1 .list (.idx (.var 0) (.cst (.int 1)))) .nil)))) t__law_is_good_4
def t__law_is_good_2 : Stms := .cons (.cond (.or (.cons (.not (.b1 .all x__law_is_good_0)) (.cons (.cmp .NotEq (.idx (.idx (.var 0) (.cst (.int 1))) (.cst (.int 0))) (.cst (.int 0))) .nil))) (.cons (.ret (.cst (.bool false))) .nil) .nil) t__law_is_good_3
def t__law_is_good_1 : Stms := .cons (.cond (.or (.cons (.not (.cmp2 .LtE .LtE (.cst (.int 1)) (.idx (.var 0) (.cst (.int 0))) (.cst (.int 5)))) (.cons (.not (.isa .seq (.idx (.var 0) (.cst (.int 1))))) (.cons (.cmp .NotEq (.b1 .len (.idx (.var 0) (.cst (.int 1)))) (.b1 .len (.call i__law_lots (.cons (.idx (.var 0) (.cst (.int 0))) .nil)))) .nil)))) (.cons (.ret (.cst (.bool false))) .nil) .nil) t__law_is_good_2
def t__law_is_good_0 : Stms := .cons (.cond (.or (.cons (.not (.isa .tuple (.var 0))) (.cons (.cmp .NotEq (.b1 .len (.var 0)) (.cst (.int 2))) (.cons (.not (.isa .int (.idx (.var 0) (.cst (.int 0))))) (.cons (.isa .bool (.idx (.var 0) (.cst (.int 0)))) .nil))))) (.cons (.ret (.cst (.bool false))) .nil) .nil) t__law_is_good_1
def f__law_is_good : Fn := ⟨6, 1, t__law_is_good_0⟩
def x__law_saying_0 : Ex := .comp [(Str.ofString "lot", 7)] (.op .Sub (.call i__law_draw (.cons (.var 0) (.cons (.cst (.int 5)) .nil))) (.cst (.int 2))) (.nm 7) .seq (.cons (.call i__law_lots (.cons (.var 1) .nil)) .nil)
@[simp] theorem v_x__law_saying_0 (r : List Slot) (m : Mu) (y : Res D) : vx r x__law_saying_0 m y = y := rfl
def x__law_saying_1 : Ex := .comp [(Str.ofString "one", 8), (Str.ofString "late", 9)] (.op .Add (.var 8) (.var 9)) (.tp [8, 9]) .zip (.cons (.view 2) (.cons (.idx (.call i__law_pick (.cons (.var 0) (.cons (.var 4) .nil))) (.cst (.int 1))) .nil))
@[simp] theorem v_x__law_saying_1 (r : List Slot) (m : Mu) (y : Res D) : vx r x__law_saying_1 m y = y := rfl
def b__law_saying_0 : Stms := (.cons (.seto 2 x__law_saying_1) .nil)
def t__law_saying_6 : Stms := .cons (.ret (.tup (.cons (.var 1) (.cons (.var 2) .nil)))) .nil
def t__law_saying_5 : Stms := .cons (.frz 2) t__law_saying_6
def t__law_saying_4 : Stms := .cons (.cond (.cmp .Eq (.var 5) (.cst (.int 1))) (.cons (.set 6 (.call i__law_draw (.cons (.var 0) (.cons (.b1 .len (.view 2)) .nil)))) (.cons (.seti 2 (.var 6) (.op .Add (.idx (.view 2) (.var 6)) (.call i__law_pick (.cons (.var 0) (.cons (.lst (.cons (.cst (.int 1)) (.cons (.neg (.cst (.int 1))) .nil))) .nil))))) .nil)) .nil) t__law_saying_5
def t__law_saying_3 : Stms := .cons (.for_ (.nm 3) .range1 (.cons (.op .Add (.cst (.int 1)) (.call i__law_draw (.cons (.var 0) (.cons (.cst (.int 4)) .nil)))) .nil) b__law_saying_0) t__law_saying_4
def t__law_saying_2 : Stms := .cons (.seto 2 (.op .Mult (.lst (.cons (.cst (.int 0)) .nil)) (.b1 .len (.call i__law_lots (.cons (.var 1) .nil))))) t__law_saying_3
def t__law_saying_1 : Stms := .cons (.cond (.cmp .Eq (.var 5) (.cst (.int 0))) (.cons (.ret (.tup (.cons (.var 1) (.cons x__law_saying_0 .nil)))) .nil) .nil) t__law_saying_2
def t__law_saying_0 : Stms := .cons (.par [4, 5] (.cons (.call i__law_plain_sayings (.cons (.var 1) .nil)) (.cons (.call i__law_draw (.cons (.var 0) (.cons (.cst (.int 5)) .nil))) .nil)) []) t__law_saying_1
def f__law_saying : Fn := ⟨10, 2, t__law_saying_0⟩
def x__law_is_saying_0 : Ex := .comp [(Str.ofString "one", 1)] (.and (.cons (.isa .int (.var 1)) (.cons (.not (.isa .bool (.var 1))) (.cons (.cmp2 .LtE .LtE (.neg (.cst (.int 9))) (.var 1) (.cst (.int 9))) .nil)))) (.nm 1) .seq (.cons (.idx (.var 0) (.cst (.int 1))) .nil)
@[simp] theorem v_x__law_is_saying_0 (r : List Slot) (m : Mu) (y : Res D) : vx r x__law_is_saying_0 m y = y := rfl
def f__law_is_saying : Fn := ⟨2, 1, (.cons (.cond (.or (.cons (.not (.isa .tuple (.var 0))) (.cons (.cmp .NotEq (.b1 .len (.var 0)) (.cst (.int 2))) (.cons (.not (.isa .int (.idx (.var 0) (.cst (.int 0))))) (.cons (.isa .bool (.idx (.var 0) (.cst (.int 0)))) .nil))))) (.cons (.ret (.cst (.bool false))) .nil) .nil) (.cons (.cond (.or (.cons (.not (.cmp2 .LtE .LtE (.cst (.int 2)) (.idx (.var 0) (.cst (.int 0))) (.cst (.int 4)))) (.cons (.not (.isa .seq (.idx (.var 0) (.cst (.int 1))))) (.cons (.cmp .NotEq (.b1 .len (.idx (.var 0) (.cst (.int 1)))) (.b1 .len (.call i__law_lots (.cons (.idx (.var 0) (.cst (.int 0))) .nil)))) .nil)))) (.cons (.ret (.cst (.bool false))) .nil) .nil) (.cons (.ret (.b1 .all x__law_is_saying_0)) .nil)))⟩
def x__law_right_0 : Ex := .comp [(Str.ofString "lot", 20)] (.call i__law_draw (.cons (.var 0) (.cons (.cst (.int 9)) .nil))) (.nm 20) .seq (.cons (.var 17) .nil)
@[simp] theorem v_x__law_right_0 (r : List Slot) (m : Mu) (y : Res D) : vx r x__law_right_0 m y = y := rfl
def x__law_right_1 : Ex := .comp [(Str.ofString "one", 23)] (.op .Sub (.var 23) (.idx (.idx (.var 2) (.cst (.int 1))) (.cst (.int 0)))) (.nm 23) .seq (.cons (.idx (.var 2) (.cst (.int 1))) .nil)
@[simp] theorem v_x__law_right_1 (r : List Slot) (m : Mu) (y : Res D) : vx r x__law_right_1 m y = y := rfl
def x__law_right_2 : Ex := .comp [(Str.ofString "one", 23)] (.cmp .GtE (.call i__law_sum_for (.cons (.var 23) (.cons (.var 2) .nil))) (.cst (.int 0))) (.nm 23) .seq (.cons (.var 16) .nil)
@[simp] theorem v_x__law_right_2 (r : List Slot) (m : Mu) (y : Res D) : vx r x__law_right_2 m y = y := rfl
def x__law_right_3 : Ex := .comp [(Str.ofString "lot", 20)] (.b2 .min (.op .Mult (.cst (.int 2)) (.b1 .len (.var 20))) (.cst (.int 5))) (.nm 20) .seq (.cons (.var 17) .nil)
@[simp] theorem v_x__law_right_3 (r : List Slot) (m : Mu) (y : Res D) : vx r x__law_right_3 m y = y := rfl
def x__law_right_4 : Ex := .comp [(Str.ofString "one", 23)] (.op .Mult (.op .Pow (.cst (.int 10)) (.cst (.int 30))) (.var 23)) (.nm 23) .seq (.cons (.idx (.var 5) (.cst (.int 1))) .nil)
@[simp] theorem v_x__law_right_4 (r : List Slot) (m : Mu) (y : Res D) : vx r x__law_right_4 m y = y := rfl
def b__law_right_0 : Stms := (.cons (.par [4, 22] (.cons (.call i__law_is_good (.cons (.var 8) .nil)) (.cons (.b1 .repr (.var 8)) .nil)) []) (.cons (.cond (.or (.cons (.cmp .NotEq (.b1 .repr (.lst (.cons (.call i_is_good (.cons (.var 8) .nil)) (.cons (.callk i_is_good .nil [Str.ofString "value"] [0] (.cons (.var 8) .nil)) .nil)))) (.b1 .repr (.lst (.cons (.var 4) (.cons (.var 4) .nil))))) (.cons (.cmp .NotEq (.b1 .repr (.var 8)) (.var 22)) .nil))) (.cons (.ret (.cst (.bool false))) .nil) .nil) .nil))
def x__law_right_5 : Ex := .comp [(Str.ofString "one", 23), (Str.ofString "late", 12)] (.op .Add (.var 23) (.var 12)) (.tp [23, 12]) .zip (.cons (.idx (.var 18) (.cst (.int 1))) (.cons (.idx (.var 19) (.cst (.int 1))) .nil))
@[simp] theorem v_x__law_right_5 (r : List Slot) (m : Mu) (y : Res D) : vx r x__law_right_5 m y = y := rfl
def x__law_right_6 : Ex := .comp [(Str.ofString "one", 23)] (.b1 .abs (.var 23)) (.nm 23) .seq (.cons (.var 9) .nil)
@[simp] theorem v_x__law_right_6 (r : List Slot) (m : Mu) (y : Res D) : vx r x__law_right_6 m y = y := rfl
def x__law_right_7 : Ex := .comp [(Str.ofString "thing", 24)] (.idx (.var 10) (.var 24)) (.nm 24) .seq (.cons (.var 20) .nil)
@[simp] theorem v_x__law_right_7 (r : List Slot) (m : Mu) (y : Res D) : vx r x__law_right_7 m y = y := rfl
def b__law_right_1 : Stms := (.cons (.seti 13 (.call i__law_number (.cons (.b1 .tuple (.b1 .sorted x__law_right_7)) .nil)) (.var 21)) .nil)
def b__law_right_2 : Stms := (.cons (.set 4 (.call i__law_is_saying (.cons (.var 8) .nil))) (.cons (.cond (.cmp .NotEq (.b1 .repr (.lst (.cons (.call i_is_saying (.cons (.var 8) .nil)) (.cons (.callk i_is_saying .nil [Str.ofString "value"] [0] (.cons (.var 8) .nil)) .nil)))) (.b1 .repr (.lst (.cons (.var 4) (.cons (.var 4) .nil))))) (.cons (.ret (.cst (.bool false))) .nil) .nil) .nil))
def t__law_right_33 : Stms := .cons (.ret (.cmp .Eq (.b1 .repr (.call i_plain_sayings (.cons (.var 1) .nil))) (.b1 .repr (.var 16)))) .nil
def t__law_right_32 : Stms := .cons (.spoil2 15 (.call i_plain_sayings (.cons (.var 1) .nil)) .none) t__law_right_33
def t__law_right_31 : Stms := .cons (.for_ (.nm 8) .seq (.cons (.op .Add (.var 7) (.lst (.cons (.tup (.cons (.cst (.bool true)) (.cons (.lst (.cons (.cst (.int 0)) (.cons (.cst (.int 0)) .nil))) .nil))) .nil))) .nil) b__law_right_2) t__law_right_32
def t__law_right_30 : Stms := .cons (.set 7 (.op .Add (.var 7) (.lst (.cons (.tup (.cons (.var 1) (.cons (.op .Add (.lst (.cons (.cst .none) .nil)) (.slL (.var 14) (.cst (.int 1)))) .nil))) (.cons (.lst (.cons (.var 1) (.cons (.var 14) .nil))) (.cons (.tup (.cons (.cst (.int 5)) (.cons (.op .Mult (.lst (.cons (.cst (.int 0)) .nil)) (.cst (.int 32))) .nil))) (.cons (.tup (.cons (.cst (.int 1)) (.cons (.lst (.cons (.cst (.int 0)) (.cons (.cst (.int 0)) .nil))) .nil))) (.cons (.tup (.cons (.var 1) .nil)) .nil)))))))) t__law_right_31
def t__law_right_29 : Stms := .cons (.set 7 (.lst (.cons (.var 18) (.cons (.tup (.cons (.var 1) (.cons (.op .Add (.var 14) (.lst (.cons (.cst (.int 0)) .nil))) .nil))) (.cons (.tup (.cons (.var 1) (.cons (.op .Add (.lst (.cons (.cst (.int 10)) .nil)) (.slL (.var 14) (.cst (.int 1)))) .nil))) (.cons (.tup (.cons (.var 1) (.cons (.op .Add (.lst (.cons (.neg (.cst (.int 9))) .nil)) (.slL (.var 14) (.cst (.int 1)))) .nil))) (.cons (.cst .none) (.cons (.tup .nil) .nil)))))))) t__law_right_30
def t__law_right_28 : Stms := .cons (.set 14 (.idx (.var 18) (.cst (.int 1)))) t__law_right_29
def t__law_right_27 : Stms := .cons (.cond (.cmp .NotEq (.call i_sum_for (.cons (.var 12) (.cons (.call i_renamed (.cons (.var 2) (.cons (.var 10) .nil))) .nil))) (.var 3)) (.cons (.ret (.cst (.bool false))) .nil) .nil) t__law_right_28
def t__law_right_26 : Stms := .cons (.cond (.cmp .NotEq (.b1 .repr (.lst (.cons (.var 12) (.cons (.callk i_saying_renamed .nil [Str.ofString "order", Str.ofString "saying"] [1, 0] (.cons (.var 10) (.cons (.var 18) .nil))) .nil)))) (.b1 .repr (.op .Mult (.lst (.cons (.tup (.cons (.var 1) (.cons (.var 13) .nil))) .nil)) (.cst (.int 2))))) (.cons (.ret (.cst (.bool false))) .nil) .nil) t__law_right_27
def t__law_right_25 : Stms := .cons (.frz 13) t__law_right_26
def t__law_right_24 : Stms := .cons (.for_ (.tp [20, 21]) .zip (.cons (.var 17) (.cons (.idx (.var 18) (.cst (.int 1))) .nil)) b__law_right_1) t__law_right_25
def t__law_right_23 : Stms := .cons (.seto 13 (.op .Mult (.lst (.cons (.cst (.int 0)) .nil)) (.b1 .len (.var 17)))) t__law_right_24
def t__law_right_22 : Stms := .cons (.set 12 (.call i_saying_renamed (.cons (.var 18) (.cons (.var 10) .nil)))) t__law_right_23
def t__law_right_21 : Stms := .cons (.set 10 (.b1 .tuple (.op .Add (.slL (.var 10) (.var 11)) (.slH (.var 10) (.var 11))))) t__law_right_22
def t__law_right_20 : Stms := .cons (.set 11 (.call i__law_draw (.cons (.var 0) (.cons (.var 1) .nil)))) t__law_right_21
def t__law_right_19 : Stms := .cons (.set 10 (.sp .listRange (.var 1))) t__law_right_20
def t__law_right_18 : Stms := .cons (.cond (.cmp .Lt (.b1 .max x__law_right_6) (.cst (.int 10))) (.cons (.cond (.cmp .NotEq (.b1 .repr (.lst (.cons (.call i_saying_plus (.cons (.var 18) (.cons (.var 19) .nil))) (.cons (.callk i_saying_plus .nil [Str.ofString "other", Str.ofString "saying"] [1, 0] (.cons (.var 19) (.cons (.var 18) .nil))) .nil)))) (.b1 .repr (.op .Mult (.lst (.cons (.tup (.cons (.var 1) (.cons (.var 9) .nil))) .nil)) (.cst (.int 2))))) (.cons (.ret (.cst (.bool false))) .nil) .nil) .nil) .nil) t__law_right_19
def t__law_right_17 : Stms := .cons (.set 9 x__law_right_5) t__law_right_18
def t__law_right_16 : Stms := .cons (.for_ (.nm 8) .seq (.cons (.op .Add (.var 7) (.lst (.cons (.tup (.cons (.cst (.bool true)) (.cons (.lst (.cons (.cst (.int 0)) (.cons (.cst (.int 1)) .nil))) .nil))) (.cons (.tup (.cons (.var 1) (.cons (.op .Add (.lst (.cons (.cst (.int 0)) (.cons (.cst (.bool true)) .nil))) (.slL (.var 6) (.cst (.int 2)))) .nil))) (.cons (.tup (.cons (.var 1) (.cons (.cst .none) .nil))) .nil))))) .nil) b__law_right_0) t__law_right_17
def t__law_right_15 : Stms := .cons (.set 7 (.op .Add (.var 7) (.lst (.cons (.tup (.cons (.cst (.int 5)) (.cons (.op .Mult (.lst (.cons (.cst (.int 0)) .nil)) (.cst (.int 32))) .nil))) (.cons (.tup (.cons (.cst (.int 6)) (.cons (.op .Mult (.lst (.cons (.cst (.int 0)) .nil)) (.cst (.int 64))) .nil))) (.cons (.cst .none) (.cons .dic0 .nil))))))) t__law_right_16
def t__law_right_14 : Stms := .cons (.set 7 (.op .Add (.var 7) (.lst (.cons (.tup (.cons (.var 1) (.cons (.op .Add (.lst (.cons (.cst (.int 1)) .nil)) (.slL (.var 6) (.cst (.int 1)))) .nil))) (.cons (.lst (.cons (.var 1) (.cons (.var 6) .nil))) (.cons (.tup (.cons (.var 1) (.cons (.slL (.var 6) (.cst (.int 1))) .nil))) (.cons (.tup (.cons (.cst (.int 1)) (.cons (.lst (.cons (.cst (.int 0)) (.cons (.cst (.int 3)) .nil))) .nil))) (.cons (.tup (.cons (.cst (.int 1)) (.cons (.lst (.cons (.cst (.int 0)) (.cons (.neg (.cst (.int 3))) .nil))) .nil))) .nil)))))))) t__law_right_15
def t__law_right_13 : Stms := .cons (.set 7 (.lst (.cons (.var 2) (.cons (.var 5) (.cons (.tup (.cons (.var 1) (.cons (.b1 .tuple (.idx (.var 5) (.cst (.int 1)))) .nil))) (.cons (.tup (.cons (.var 1) (.cons x__law_right_4 .nil))) .nil)))))) t__law_right_14
def t__law_right_12 : Stms := .cons (.set 6 (.idx (.var 2) (.cst (.int 1)))) t__law_right_13
def t__law_right_11 : Stms := .cons (.set 5 (.tup (.cons (.var 1) (.cons x__law_right_3 .nil)))) t__law_right_12
def t__law_right_10 : Stms := .cons (.cond (.cmp .NotEq (.var 4) (.b1 .all x__law_right_2)) (.cons (.ret (.cst (.bool false))) .nil) .nil) t__law_right_11
def t__law_right_9 : Stms := .cons (.set 4 (.call i__law_is_good (.cons (.var 2) .nil))) t__law_right_10
def t__law_right_8 : Stms := .cons (.cond (.cmp .NotEq (.b1 .repr (.lst (.cons (.call i_sum_for (.cons (.var 18) (.cons (.var 2) .nil))) (.cons (.callk i_sum_for .nil [Str.ofString "table", Str.ofString "saying"] [1, 0] (.cons (.var 2) (.cons (.var 18) .nil))) .nil)))) (.b1 .repr (.lst (.cons (.var 3) (.cons (.var 3) .nil))))) (.cons (.ret (.cst (.bool false))) .nil) .nil) t__law_right_9
def t__law_right_7 : Stms := .cons (.set 3 (.call i__law_sum_for (.cons (.var 18) (.cons (.var 2) .nil)))) t__law_right_8
def t__law_right_6 : Stms := .cons (.set 2 (.tup (.cons (.var 1) (.cons x__law_right_1 .nil)))) t__law_right_7
def t__law_right_5 : Stms := .cons (.set 2 (.ite (.cmp .Eq (.call i__law_draw (.cons (.var 0) (.cons (.cst (.int 2)) .nil))) (.cst (.int 0))) (.call i__law_less_table (.cons (.var 0) (.cons (.var 1) .nil))) (.tup (.cons (.var 1) (.cons x__law_right_0 .nil))))) t__law_right_6
def t__law_right_4 : Stms := .cons (.par [18, 19] (.cons (.call i__law_saying (.cons (.var 0) (.cons (.var 1) .nil))) (.cons (.call i__law_pick (.cons (.var 0) (.cons (.var 16) .nil))) .nil)) []) t__law_right_5
def t__law_right_3 : Stms := .cons (.cond (.cmp .NotEq (.b1 .len (.var 16)) (.idx (.lst (.cons (.cst (.int 3)) (.cons (.cst (.int 9)) (.cons (.cst (.int 28)) .nil)))) (.op .Sub (.var 1) (.cst (.int 2))))) (.cons (.ret (.cst (.bool false))) .nil) .nil) t__law_right_4
def t__law_right_2 : Stms := .cons (.cond (.cmp .NotEq (.b1 .repr (.lst (.cons (.call i_plain_sayings (.cons (.var 1) .nil)) (.cons (.callk i_plain_sayings .nil [Str.ofString "number"] [0] (.cons (.var 1) .nil)) .nil)))) (.b1 .repr (.lst (.cons (.var 16) (.cons (.var 16) .nil))))) (.cons (.ret (.cst (.bool false))) .nil) .nil) t__law_right_3
def t__law_right_1 : Stms := .cons (.par [16, 17] (.cons (.call i__law_plain_sayings (.cons (.var 1) .nil)) (.cons (.call i__law_lots (.cons (.var 1) .nil)) .nil)) []) t__law_right_2
def t__law_right_0 : Stms := .cons (.set 1 (.op .Add (.cst (.int 2)) (.call i__law_draw (.cons (.var 0) (.cons (.cst (.int 3)) .nil))))) t__law_right_1
def f__law_right : Fn := ⟨25, 1, t__law_right_0⟩
def x_law_0 : Ex := .comp [(Str.ofString "k", 1)] (.call i__law_right (.cons (.call i__law_pot (.cons (.var 0) (.cons (.var 1) .nil))) .nil)) (.nm 1) .range1 (.cons (.b2 .max (.cst (.int 1)) (.b2 .min (.cst (.int 3)) (.b1 .len (.var 0)))) .nil)
@[simp] theorem v_x_law_0 (r : List Slot) (m : Mu) (y : Res D) : vx r x_law_0 m y = y := rfl
def f_law : Fn := ⟨2, 1, (.cons (.ret (.b1 .all x_law_0)) .nil)⟩
def fns : List Fn := [f_is_integer, f_is_within, f_is_list, f_want_at_most, f_is_table_of, f_check_table, f_number_by, f_lot_by, f_all_lots, f_lot_with, f_rest_of, f_worth_of, f_gain_of, f_renamed, f_does_break, f_first_break, f_first_fall, f_is_saying_of, f_check_saying, f_is_wide_of, f_is_good_of, f_sum_by, f_saying_by, f_plain_of, f_is_saying, f_is_good, f_sum_for, f_plain_sayings, f_saying_plus, f_saying_renamed, f__law_pot, f__law_draw, f__law_pick, f__law_lots, f__law_number, f__law_worth, f__law_with, f__law_is_less, f__law_less_table, f__law_plain_sayings, f__law_sum_for, f__law_is_good, f__law_saying, f__law_is_saying, f__law_right, f_law]
def dnames : List Str := [Str.ofString "is_integer", Str.ofString "is_within", Str.ofString "is_list", Str.ofString "want_at_most", Str.ofString "is_table_of", Str.ofString "check_table", Str.ofString "number_by", Str.ofString "lot_by", Str.ofString "all_lots", Str.ofString "lot_with", Str.ofString "rest_of", Str.ofString "worth_of", Str.ofString "gain_of", Str.ofString "renamed", Str.ofString "does_break", Str.ofString "first_break", Str.ofString "first_fall", Str.ofString "is_saying_of", Str.ofString "check_saying", Str.ofString "is_wide_of", Str.ofString "is_good_of", Str.ofString "sum_by", Str.ofString "saying_by", Str.ofString "plain_of", Str.ofString "is_saying", Str.ofString "is_good", Str.ofString "sum_for", Str.ofString "plain_sayings", Str.ofString "saying_plus", Str.ofString "saying_renamed", Str.ofString "_law_pot", Str.ofString "_law_draw", Str.ofString "_law_pick", Str.ofString "_law_lots", Str.ofString "_law_number", Str.ofString "_law_worth", Str.ofString "_law_with", Str.ofString "_law_is_less", Str.ofString "_law_less_table", Str.ofString "_law_plain_sayings", Str.ofString "_law_sum_for", Str.ofString "_law_is_good", Str.ofString "_law_saying", Str.ofString "_law_is_saying", Str.ofString "_law_right", Str.ofString "law"]
def gnames : List Str := [Str.ofString "MOST_THINGS", Str.ofString "MOST_WORTH", Str.ofString "POWERS", Str.ofString "LEAST_THINGS", Str.ofString "MOST_THINGS_SAID", Str.ofString "MOST_NUMBER", Str.ofString "MOST_THINGS_WIDE"]
def cnames : List Str := [Str.ofString "LotError", Str.ofString "StateError", Str.ofString "LimitError", Str.ofString "InvalidTable", Str.ofString "InvalidNumber", Str.ofString "InvalidOrder", Str.ofString "InvalidSaying", Str.ofString "UnlikeThings", Str.ofString "TooMany"]
def kwl : List (Nat × Nat × List Str × List Nat) := [(27, 0, [Str.ofString "number"], [0]), (26, 0, [Str.ofString "table", Str.ofString "saying"], [1, 0]), (29, 0, [Str.ofString "order", Str.ofString "saying"], [1, 0]), (28, 0, [Str.ofString "other", Str.ofString "saying"], [1, 0]), (24, 0, [Str.ofString "value"], [0]), (25, 0, [Str.ofString "value"], [0])]
def cc (N : List Str) : Cc := ⟨N, dnames, gnames, cnames, kwl⟩
def topS (i : Nat) : Stmt := PySem.Challenge.pw_lessandless_k89_whole_plain_sayings_and.main.body.getD i (.Pass ⟨0, 0, 0, 0⟩)
abbrev s0 : Stmt := topS 11
def N0 : List Str := [Str.ofString "value"]
def P0 : List Str := [Str.ofString "value"]
abbrev s1 : Stmt := topS 12
def N1 : List Str := [Str.ofString "value", Str.ofString "least", Str.ofString "most"]
def P1 : List Str := [Str.ofString "value", Str.ofString "least", Str.ofString "most"]
abbrev s2 : Stmt := topS 13
def N2 : List Str := [Str.ofString "value"]
def P2 : List Str := [Str.ofString "value"]
abbrev s3 : Stmt := topS 14
def N3 : List Str := [Str.ofString "what", Str.ofString "limit", Str.ofString "number"]
def P3 : List Str := [Str.ofString "what", Str.ofString "limit", Str.ofString "number"]
abbrev s4 : Stmt := topS 19
def N4 : List Str := [Str.ofString "value", Str.ofString "one"]
def P4 : List Str := [Str.ofString "value"]
abbrev s5 : Stmt := topS 20
def N5 : List Str := [Str.ofString "value"]
def P5 : List Str := [Str.ofString "value"]
abbrev s6 : Stmt := topS 21
def N6 : List Str := [Str.ofString "lot", Str.ofString "thing"]
def P6 : List Str := [Str.ofString "lot"]
abbrev s7 : Stmt := topS 22
def N7 : List Str := [Str.ofString "number", Str.ofString "found", Str.ofString "thing"]
def P7 : List Str := [Str.ofString "number"]
abbrev s8 : Stmt := topS 23
def N8 : List Str := [Str.ofString "many", Str.ofString "number"]
def P8 : List Str := [Str.ofString "many"]
abbrev s9 : Stmt := topS 24
def N9 : List Str := [Str.ofString "lot", Str.ofString "thing"]
def P9 : List Str := [Str.ofString "lot", Str.ofString "thing"]
abbrev s10 : Stmt := topS 25
def N10 : List Str := [Str.ofString "many", Str.ofString "lot", Str.ofString "thing"]
def P10 : List Str := [Str.ofString "many", Str.ofString "lot"]
abbrev s11 : Stmt := topS 26
def N11 : List Str := [Str.ofString "table", Str.ofString "lot"]
def P11 : List Str := [Str.ofString "table", Str.ofString "lot"]
abbrev s12 : Stmt := topS 27
def N12 : List Str := [Str.ofString "table", Str.ofString "lot", Str.ofString "thing"]
def P12 : List Str := [Str.ofString "table", Str.ofString "lot", Str.ofString "thing"]
abbrev s13 : Stmt := topS 28
def N13 : List Str := [Str.ofString "table", Str.ofString "order", Str.ofString "worths", Str.ofString "lot", Str.ofString "one", Str.ofString "thing"]
def P13 : List Str := [Str.ofString "table", Str.ofString "order"]
abbrev s14 : Stmt := topS 30
def N14 : List Str := [Str.ofString "table", Str.ofString "lot", Str.ofString "thing", Str.ofString "late"]
def P14 : List Str := [Str.ofString "table", Str.ofString "lot", Str.ofString "thing", Str.ofString "late"]
abbrev s15 : Stmt := topS 31
def N15 : List Str := [Str.ofString "table", Str.ofString "lot", Str.ofString "rest", Str.ofString "place", Str.ofString "thing", Str.ofString "late"]
def P15 : List Str := [Str.ofString "table"]
abbrev s16 : Stmt := topS 32
def N16 : List Str := [Str.ofString "table", Str.ofString "lot", Str.ofString "thing"]
def P16 : List Str := [Str.ofString "table"]
abbrev s17 : Stmt := topS 38
def N17 : List Str := [Str.ofString "value", Str.ofString "one"]
def P17 : List Str := [Str.ofString "value"]
abbrev s18 : Stmt := topS 39
def N18 : List Str := [Str.ofString "value"]
def P18 : List Str := [Str.ofString "value"]
abbrev s19 : Stmt := topS 40
def N19 : List Str := [Str.ofString "value", Str.ofString "one"]
def P19 : List Str := [Str.ofString "value"]
abbrev s20 : Stmt := topS 41
def N20 : List Str := [Str.ofString "value"]
def P20 : List Str := [Str.ofString "value"]
abbrev s21 : Stmt := topS 42
def N21 : List Str := [Str.ofString "saying", Str.ofString "table", Str.ofString "number", Str.ofString "one"]
def P21 : List Str := [Str.ofString "saying", Str.ofString "table"]
abbrev s22 : Stmt := topS 43
def N22 : List Str := [Str.ofString "many", Str.ofString "rows", Str.ofString "numbers", Str.ofString "lot", Str.ofString "number"]
def P22 : List Str := [Str.ofString "many", Str.ofString "rows"]
abbrev s23 : Stmt := topS 44
def N23 : List Str := [Str.ofString "many", Str.ofString "thing", Str.ofString "lot", Str.ofString "whole", Str.ofString "found", Str.ofString "rest", Str.ofString "place", Str.ofString "late", Str.ofString "one", Str.ofString "other"]
def P23 : List Str := [Str.ofString "many"]
abbrev s24 : Stmt := topS 45
def N24 : List Str := [Str.ofString "value"]
def P24 : List Str := [Str.ofString "value"]
abbrev s25 : Stmt := topS 46
def N25 : List Str := [Str.ofString "value"]
def P25 : List Str := [Str.ofString "value"]
abbrev s26 : Stmt := topS 47
def N26 : List Str := [Str.ofString "saying", Str.ofString "table"]
def P26 : List Str := [Str.ofString "saying", Str.ofString "table"]
abbrev s27 : Stmt := topS 48
def N27 : List Str := [Str.ofString "number"]
def P27 : List Str := [Str.ofString "number"]
abbrev s28 : Stmt := topS 49
def N28 : List Str := [Str.ofString "saying", Str.ofString "other", Str.ofString "numbers", Str.ofString "one", Str.ofString "late"]
def P28 : List Str := [Str.ofString "saying", Str.ofString "other"]
abbrev s29 : Stmt := topS 50
def N29 : List Str := [Str.ofString "saying", Str.ofString "order", Str.ofString "many", Str.ofString "lot", Str.ofString "one", Str.ofString "thing"]
def P29 : List Str := [Str.ofString "saying", Str.ofString "order"]
abbrev s30 : Stmt := topS 52
def N30 : List Str := [Str.ofString "script", Str.ofString "k", Str.ofString "cell"]
def P30 : List Str := [Str.ofString "script", Str.ofString "k"]
abbrev s31 : Stmt := topS 53
def N31 : List Str := [Str.ofString "pot", Str.ofString "many", Str.ofString "digit"]
def P31 : List Str := [Str.ofString "pot", Str.ofString "many"]
abbrev s32 : Stmt := topS 54
def N32 : List Str := [Str.ofString "pot", Str.ofString "some"]
def P32 : List Str := [Str.ofString "pot", Str.ofString "some"]
abbrev s33 : Stmt := topS 55
def N33 : List Str := [Str.ofString "many", Str.ofString "found", Str.ofString "thing", Str.ofString "lot"]
def P33 : List Str := [Str.ofString "many"]
abbrev s34 : Stmt := topS 56
def N34 : List Str := [Str.ofString "lot", Str.ofString "found", Str.ofString "thing", Str.ofString "part", Str.ofString "turn"]
def P34 : List Str := [Str.ofString "lot"]
abbrev s35 : Stmt := topS 57
def N35 : List Str := [Str.ofString "table", Str.ofString "lot"]
def P35 : List Str := [Str.ofString "table", Str.ofString "lot"]
abbrev s36 : Stmt := topS 58
def N36 : List Str := [Str.ofString "lot", Str.ofString "thing"]
def P36 : List Str := [Str.ofString "lot", Str.ofString "thing"]
abbrev s37 : Stmt := topS 59
def N37 : List Str := [Str.ofString "table", Str.ofString "lot", Str.ofString "rest", Str.ofString "at", Str.ofString "thing", Str.ofString "late", Str.ofString "both"]
def P37 : List Str := [Str.ofString "table"]
abbrev s38 : Stmt := topS 60
def N38 : List Str := [Str.ofString "pot", Str.ofString "many", Str.ofString "covers", Str.ofString "ways", Str.ofString "worths", Str.ofString "lot", Str.ofString "steps", Str.ofString "ground", Str.ofString "curve", Str.ofString "own", Str.ofString "point", Str.ofString "turn", Str.ofString "thing", Str.ofString "cover", Str.ofString "one", Str.ofString "late", Str.ofString "much"]
def P38 : List Str := [Str.ofString "pot", Str.ofString "many"]
abbrev s39 : Stmt := topS 61
def N39 : List Str := [Str.ofString "many", Str.ofString "thing", Str.ofString "lot", Str.ofString "lots", Str.ofString "found", Str.ofString "row", Str.ofString "rest", Str.ofString "at", Str.ofString "late", Str.ofString "some", Str.ofString "sign", Str.ofString "one"]
def P39 : List Str := [Str.ofString "many"]
abbrev s40 : Stmt := topS 62
def N40 : List Str := [Str.ofString "saying", Str.ofString "table", Str.ofString "number", Str.ofString "worth"]
def P40 : List Str := [Str.ofString "saying", Str.ofString "table"]
abbrev s41 : Stmt := topS 63
def N41 : List Str := [Str.ofString "value", Str.ofString "table", Str.ofString "lot", Str.ofString "rest", Str.ofString "thing", Str.ofString "one"]
def P41 : List Str := [Str.ofString "value"]
abbrev s42 : Stmt := topS 64
def N42 : List Str := [Str.ofString "pot", Str.ofString "many", Str.ofString "found", Str.ofString "turn", Str.ofString "plain", Str.ofString "way", Str.ofString "at", Str.ofString "lot", Str.ofString "one", Str.ofString "late"]
def P42 : List Str := [Str.ofString "pot", Str.ofString "many"]
abbrev s43 : Stmt := topS 65
def N43 : List Str := [Str.ofString "value", Str.ofString "one"]
def P43 : List Str := [Str.ofString "value"]
abbrev s44 : Stmt := topS 66
def N44 : List Str := [Str.ofString "pot", Str.ofString "many", Str.ofString "table", Str.ofString "own", Str.ofString "due", Str.ofString "cover", Str.ofString "worths", Str.ofString "values", Str.ofString "value", Str.ofString "both", Str.ofString "order", Str.ofString "at", Str.ofString "late", Str.ofString "moved", Str.ofString "numbers", Str.ofString "got", Str.ofString "plain", Str.ofString "lots", Str.ofString "saying", Str.ofString "other", Str.ofString "lot", Str.ofString "number", Str.ofString "shown", Str.ofString "one", Str.ofString "thing"]
def P44 : List Str := [Str.ofString "pot"]
abbrev s45 : Stmt := topS 67
def N45 : List Str := [Str.ofString "script", Str.ofString "k"]
def P45 : List Str := [Str.ofString "script"]
def consts : List D := [(.int 5), (.int 99), (.tup [(.int 1), (.int 2), (.int 4), (.int 8), (.int 16), (.int 32)]), (.int 2), (.int 4), (.int 9), (.int 5)]
def txt : Txt0 := ⟨fns, dnames, gnames, cnames, kwl, consts⟩
theorem h_is_integer : txt.fs[i_is_integer]? = some f_is_integer := rfl
theorem h_is_within : txt.fs[i_is_within]? = some f_is_within := rfl
theorem h_is_list : txt.fs[i_is_list]? = some f_is_list := rfl
theorem h_want_at_most : txt.fs[i_want_at_most]? = some f_want_at_most := rfl
theorem h_is_table_of : txt.fs[i_is_table_of]? = some f_is_table_of := rfl
theorem h_check_table : txt.fs[i_check_table]? = some f_check_table := rfl
theorem h_number_by : txt.fs[i_number_by]? = some f_number_by := rfl
theorem h_lot_by : txt.fs[i_lot_by]? = some f_lot_by := rfl
theorem h_all_lots : txt.fs[i_all_lots]? = some f_all_lots := rfl
theorem h_lot_with : txt.fs[i_lot_with]? = some f_lot_with := rfl
theorem h_rest_of : txt.fs[i_rest_of]? = some f_rest_of := rfl
theorem h_worth_of : txt.fs[i_worth_of]? = some f_worth_of := rfl
theorem h_gain_of : txt.fs[i_gain_of]? = some f_gain_of := rfl
theorem h_renamed : txt.fs[i_renamed]? = some f_renamed := rfl
theorem h_does_break : txt.fs[i_does_break]? = some f_does_break := rfl
theorem h_first_break : txt.fs[i_first_break]? = some f_first_break := rfl
theorem h_first_fall : txt.fs[i_first_fall]? = some f_first_fall := rfl
theorem h_is_saying_of : txt.fs[i_is_saying_of]? = some f_is_saying_of := rfl
theorem h_check_saying : txt.fs[i_check_saying]? = some f_check_saying := rfl
theorem h_is_wide_of : txt.fs[i_is_wide_of]? = some f_is_wide_of := rfl
theorem h_is_good_of : txt.fs[i_is_good_of]? = some f_is_good_of := rfl
theorem h_sum_by : txt.fs[i_sum_by]? = some f_sum_by := rfl
theorem h_saying_by : txt.fs[i_saying_by]? = some f_saying_by := rfl
theorem h_plain_of : txt.fs[i_plain_of]? = some f_plain_of := rfl
theorem h_is_saying : txt.fs[i_is_saying]? = some f_is_saying := rfl
theorem h_is_good : txt.fs[i_is_good]? = some f_is_good := rfl
theorem h_sum_for : txt.fs[i_sum_for]? = some f_sum_for := rfl
theorem h_plain_sayings : txt.fs[i_plain_sayings]? = some f_plain_sayings := rfl
theorem h_saying_plus : txt.fs[i_saying_plus]? = some f_saying_plus := rfl
theorem h_saying_renamed : txt.fs[i_saying_renamed]? = some f_saying_renamed := rfl
theorem h__law_pot : txt.fs[i__law_pot]? = some f__law_pot := rfl
theorem h__law_draw : txt.fs[i__law_draw]? = some f__law_draw := rfl
theorem h__law_pick : txt.fs[i__law_pick]? = some f__law_pick := rfl
theorem h__law_lots : txt.fs[i__law_lots]? = some f__law_lots := rfl
theorem h__law_number : txt.fs[i__law_number]? = some f__law_number := rfl
theorem h__law_worth : txt.fs[i__law_worth]? = some f__law_worth := rfl
theorem h__law_with : txt.fs[i__law_with]? = some f__law_with := rfl
theorem h__law_is_less : txt.fs[i__law_is_less]? = some f__law_is_less := rfl
theorem h__law_less_table : txt.fs[i__law_less_table]? = some f__law_less_table := rfl
theorem h__law_plain_sayings : txt.fs[i__law_plain_sayings]? = some f__law_plain_sayings := rfl
theorem h__law_sum_for : txt.fs[i__law_sum_for]? = some f__law_sum_for := rfl
theorem h__law_is_good : txt.fs[i__law_is_good]? = some f__law_is_good := rfl
theorem h__law_saying : txt.fs[i__law_saying]? = some f__law_saying := rfl
theorem h__law_is_saying : txt.fs[i__law_is_saying]? = some f__law_is_saying := rfl
theorem h__law_right : txt.fs[i__law_right]? = some f__law_right := rfl
theorem h_law : txt.fs[i_law]? = some f_law := rfl
theorem k_MOST_THINGS : txt.consts[g_MOST_THINGS]? = some (.int 5) := rfl
theorem k_MOST_WORTH : txt.consts[g_MOST_WORTH]? = some (.int 99) := rfl
theorem k_POWERS : txt.consts[g_POWERS]? = some (.tup [(.int 1), (.int 2), (.int 4), (.int 8), (.int 16), (.int 32)]) := rfl
theorem k_LEAST_THINGS : txt.consts[g_LEAST_THINGS]? = some (.int 2) := rfl
theorem k_MOST_THINGS_SAID : txt.consts[g_MOST_THINGS_SAID]? = some (.int 4) := rfl
theorem k_MOST_NUMBER : txt.consts[g_MOST_NUMBER]? = some (.int 9) := rfl
theorem k_MOST_THINGS_WIDE : txt.consts[g_MOST_THINGS_WIDE]? = some (.int 5) := rfl
theorem st0 : Stat txt 0 (Str.ofString "is_integer") s0 N0 P0 := by
  refine ⟨⟨rfl, rfl, rfl, by decide +kernel, rfl, by decide +kernel, by decide +kernel⟩, ⟨f_is_integer, rfl, rfl, rfl, by decide +kernel⟩, ?_, ?_⟩
  · intro kV doc pm an cdv ct us hl
    have hl : us.length = 1 := hl
    match us, hl with
    | [_], _ => rfl
  · intro q hq
    have : kwsOf (txt.cc []) 0 = [] := rfl
    rw [this] at hq
    cases hq
theorem st1 : Stat txt 1 (Str.ofString "is_within") s1 N1 P1 := by
  refine ⟨⟨rfl, rfl, rfl, by decide +kernel, rfl, by decide +kernel, by decide +kernel⟩, ⟨f_is_within, rfl, rfl, rfl, by decide +kernel⟩, ?_, ?_⟩
  · intro kV doc pm an cdv ct us hl
    have hl : us.length = 3 := hl
    match us, hl with
    | [_, _, _], _ => rfl
  · intro q hq
    have : kwsOf (txt.cc []) 1 = [] := rfl
    rw [this] at hq
    cases hq
theorem st2 : Stat txt 2 (Str.ofString "is_list") s2 N2 P2 := by
  refine ⟨⟨rfl, rfl, rfl, by decide +kernel, rfl, by decide +kernel, by decide +kernel⟩, ⟨f_is_list, rfl, rfl, rfl, by decide +kernel⟩, ?_, ?_⟩
  · intro kV doc pm an cdv ct us hl
    have hl : us.length = 1 := hl
    match us, hl with
    | [_], _ => rfl
  · intro q hq
    have : kwsOf (txt.cc []) 2 = [] := rfl
    rw [this] at hq
    cases hq
theorem st3 : Stat txt 3 (Str.ofString "want_at_most") s3 N3 P3 := by
  refine ⟨⟨rfl, rfl, rfl, by decide +kernel, rfl, by decide +kernel, by decide +kernel⟩, ⟨f_want_at_most, rfl, rfl, rfl, by decide +kernel⟩, ?_, ?_⟩
  · intro kV doc pm an cdv ct us hl
    have hl : us.length = 3 := hl
    match us, hl with
    | [_, _, _], _ => rfl
  · intro q hq
    have : kwsOf (txt.cc []) 3 = [] := rfl
    rw [this] at hq
    cases hq
theorem st4 : Stat txt 4 (Str.ofString "is_table_of") s4 N4 P4 := by
  refine ⟨⟨rfl, rfl, rfl, by decide +kernel, rfl, by decide +kernel, by decide +kernel⟩, ⟨f_is_table_of, rfl, rfl, rfl, by decide +kernel⟩, ?_, ?_⟩
  · intro kV doc pm an cdv ct us hl
    have hl : us.length = 1 := hl
    match us, hl with
    | [_], _ => rfl
  · intro q hq
    have : kwsOf (txt.cc []) 4 = [] := rfl
    rw [this] at hq
    cases hq
theorem st5 : Stat txt 5 (Str.ofString "check_table") s5 N5 P5 := by
  refine ⟨⟨rfl, rfl, rfl, by decide +kernel, rfl, by decide +kernel, by decide +kernel⟩, ⟨f_check_table, rfl, rfl, rfl, by decide +kernel⟩, ?_, ?_⟩
  · intro kV doc pm an cdv ct us hl
    have hl : us.length = 1 := hl
    match us, hl with
    | [_], _ => rfl
  · intro q hq
    have : kwsOf (txt.cc []) 5 = [] := rfl
    rw [this] at hq
    cases hq
theorem st6 : Stat txt 6 (Str.ofString "number_by") s6 N6 P6 := by
  refine ⟨⟨rfl, rfl, rfl, by decide +kernel, rfl, by decide +kernel, by decide +kernel⟩, ⟨f_number_by, rfl, rfl, rfl, by decide +kernel⟩, ?_, ?_⟩
  · intro kV doc pm an cdv ct us hl
    have hl : us.length = 1 := hl
    match us, hl with
    | [_], _ => rfl
  · intro q hq
    have : kwsOf (txt.cc []) 6 = [] := rfl
    rw [this] at hq
    cases hq
theorem st7 : Stat txt 7 (Str.ofString "lot_by") s7 N7 P7 := by
  refine ⟨⟨rfl, rfl, rfl, by decide +kernel, rfl, by decide +kernel, by decide +kernel⟩, ⟨f_lot_by, rfl, rfl, rfl, by decide +kernel⟩, ?_, ?_⟩
  · intro kV doc pm an cdv ct us hl
    have hl : us.length = 1 := hl
    match us, hl with
    | [_], _ => rfl
  · intro q hq
    have : kwsOf (txt.cc []) 7 = [] := rfl
    rw [this] at hq
    cases hq
theorem st8 : Stat txt 8 (Str.ofString "all_lots") s8 N8 P8 := by
  refine ⟨⟨rfl, rfl, rfl, by decide +kernel, rfl, by decide +kernel, by decide +kernel⟩, ⟨f_all_lots, rfl, rfl, rfl, by decide +kernel⟩, ?_, ?_⟩
  · intro kV doc pm an cdv ct us hl
    have hl : us.length = 1 := hl
    match us, hl with
    | [_], _ => rfl
  · intro q hq
    have : kwsOf (txt.cc []) 8 = [] := rfl
    rw [this] at hq
    cases hq
theorem st9 : Stat txt 9 (Str.ofString "lot_with") s9 N9 P9 := by
  refine ⟨⟨rfl, rfl, rfl, by decide +kernel, rfl, by decide +kernel, by decide +kernel⟩, ⟨f_lot_with, rfl, rfl, rfl, by decide +kernel⟩, ?_, ?_⟩
  · intro kV doc pm an cdv ct us hl
    have hl : us.length = 2 := hl
    match us, hl with
    | [_, _], _ => rfl
  · intro q hq
    have : kwsOf (txt.cc []) 9 = [] := rfl
    rw [this] at hq
    cases hq
theorem st10 : Stat txt 10 (Str.ofString "rest_of") s10 N10 P10 := by
  refine ⟨⟨rfl, rfl, rfl, by decide +kernel, rfl, by decide +kernel, by decide +kernel⟩, ⟨f_rest_of, rfl, rfl, rfl, by decide +kernel⟩, ?_, ?_⟩
  · intro kV doc pm an cdv ct us hl
    have hl : us.length = 2 := hl
    match us, hl with
    | [_, _], _ => rfl
  · intro q hq
    have : kwsOf (txt.cc []) 10 = [] := rfl
    rw [this] at hq
    cases hq
theorem st11 : Stat txt 11 (Str.ofString "worth_of") s11 N11 P11 := by
  refine ⟨⟨rfl, rfl, rfl, by decide +kernel, rfl, by decide +kernel, by decide +kernel⟩, ⟨f_worth_of, rfl, rfl, rfl, by decide +kernel⟩, ?_, ?_⟩
  · intro kV doc pm an cdv ct us hl
    have hl : us.length = 2 := hl
    match us, hl with
    | [_, _], _ => rfl
  · intro q hq
    have : kwsOf (txt.cc []) 11 = [] := rfl
    rw [this] at hq
    cases hq
theorem st12 : Stat txt 12 (Str.ofString "gain_of") s12 N12 P12 := by
  refine ⟨⟨rfl, rfl, rfl, by decide +kernel, rfl, by decide +kernel, by decide +kernel⟩, ⟨f_gain_of, rfl, rfl, rfl, by decide +kernel⟩, ?_, ?_⟩
  · intro kV doc pm an cdv ct us hl
    have hl : us.length = 3 := hl
    match us, hl with
    | [_, _, _], _ => rfl
  · intro q hq
    have : kwsOf (txt.cc []) 12 = [] := rfl
    rw [this] at hq
    cases hq
theorem st13 : Stat txt 13 (Str.ofString "renamed") s13 N13 P13 := by
  refine ⟨⟨rfl, rfl, rfl, by decide +kernel, rfl, by decide +kernel, by decide +kernel⟩, ⟨f_renamed, rfl, rfl, rfl, by decide +kernel⟩, ?_, ?_⟩
  · intro kV doc pm an cdv ct us hl
    have hl : us.length = 2 := hl
    match us, hl with
    | [_, _], _ => rfl
  · intro q hq
    have : kwsOf (txt.cc []) 13 = [] := rfl
    rw [this] at hq
    cases hq
theorem st14 : Stat txt 14 (Str.ofString "does_break") s14 N14 P14 := by
  refine ⟨⟨rfl, rfl, rfl, by decide +kernel, rfl, by decide +kernel, by decide +kernel⟩, ⟨f_does_break, rfl, rfl, rfl, by decide +kernel⟩, ?_, ?_⟩
  · intro kV doc pm an cdv ct us hl
    have hl : us.length = 4 := hl
    match us, hl with
    | [_, _, _, _], _ => rfl
  · intro q hq
    have : kwsOf (txt.cc []) 14 = [] := rfl
    rw [this] at hq
    cases hq
theorem st15 : Stat txt 15 (Str.ofString "first_break") s15 N15 P15 := by
  refine ⟨⟨rfl, rfl, rfl, by decide +kernel, rfl, by decide +kernel, by decide +kernel⟩, ⟨f_first_break, rfl, rfl, rfl, by decide +kernel⟩, ?_, ?_⟩
  · intro kV doc pm an cdv ct us hl
    have hl : us.length = 1 := hl
    match us, hl with
    | [_], _ => rfl
  · intro q hq
    have : kwsOf (txt.cc []) 15 = [] := rfl
    rw [this] at hq
    cases hq
theorem st16 : Stat txt 16 (Str.ofString "first_fall") s16 N16 P16 := by
  refine ⟨⟨rfl, rfl, rfl, by decide +kernel, rfl, by decide +kernel, by decide +kernel⟩, ⟨f_first_fall, rfl, rfl, rfl, by decide +kernel⟩, ?_, ?_⟩
  · intro kV doc pm an cdv ct us hl
    have hl : us.length = 1 := hl
    match us, hl with
    | [_], _ => rfl
  · intro q hq
    have : kwsOf (txt.cc []) 16 = [] := rfl
    rw [this] at hq
    cases hq
theorem st17 : Stat txt 17 (Str.ofString "is_saying_of") s17 N17 P17 := by
  refine ⟨⟨rfl, rfl, rfl, by decide +kernel, rfl, by decide +kernel, by decide +kernel⟩, ⟨f_is_saying_of, rfl, rfl, rfl, by decide +kernel⟩, ?_, ?_⟩
  · intro kV doc pm an cdv ct us hl
    have hl : us.length = 1 := hl
    match us, hl with
    | [_], _ => rfl
  · intro q hq
    have : kwsOf (txt.cc []) 17 = [] := rfl
    rw [this] at hq
    cases hq
theorem st18 : Stat txt 18 (Str.ofString "check_saying") s18 N18 P18 := by
  refine ⟨⟨rfl, rfl, rfl, by decide +kernel, rfl, by decide +kernel, by decide +kernel⟩, ⟨f_check_saying, rfl, rfl, rfl, by decide +kernel⟩, ?_, ?_⟩
  · intro kV doc pm an cdv ct us hl
    have hl : us.length = 1 := hl
    match us, hl with
    | [_], _ => rfl
  · intro q hq
    have : kwsOf (txt.cc []) 18 = [] := rfl
    rw [this] at hq
    cases hq
theorem st19 : Stat txt 19 (Str.ofString "is_wide_of") s19 N19 P19 := by
  refine ⟨⟨rfl, rfl, rfl, by decide +kernel, rfl, by decide +kernel, by decide +kernel⟩, ⟨f_is_wide_of, rfl, rfl, rfl, by decide +kernel⟩, ?_, ?_⟩
  · intro kV doc pm an cdv ct us hl
    have hl : us.length = 1 := hl
    match us, hl with
    | [_], _ => rfl
  · intro q hq
    have : kwsOf (txt.cc []) 19 = [] := rfl
    rw [this] at hq
    cases hq
theorem st20 : Stat txt 20 (Str.ofString "is_good_of") s20 N20 P20 := by
  refine ⟨⟨rfl, rfl, rfl, by decide +kernel, rfl, by decide +kernel, by decide +kernel⟩, ⟨f_is_good_of, rfl, rfl, rfl, by decide +kernel⟩, ?_, ?_⟩
  · intro kV doc pm an cdv ct us hl
    have hl : us.length = 1 := hl
    match us, hl with
    | [_], _ => rfl
  · intro q hq
    have : kwsOf (txt.cc []) 20 = [] := rfl
    rw [this] at hq
    cases hq
theorem st21 : Stat txt 21 (Str.ofString "sum_by") s21 N21 P21 := by
  refine ⟨⟨rfl, rfl, rfl, by decide +kernel, rfl, by decide +kernel, by decide +kernel⟩, ⟨f_sum_by, rfl, rfl, rfl, by decide +kernel⟩, ?_, ?_⟩
  · intro kV doc pm an cdv ct us hl
    have hl : us.length = 2 := hl
    match us, hl with
    | [_, _], _ => rfl
  · intro q hq
    have : kwsOf (txt.cc []) 21 = [] := rfl
    rw [this] at hq
    cases hq
theorem st22 : Stat txt 22 (Str.ofString "saying_by") s22 N22 P22 := by
  refine ⟨⟨rfl, rfl, rfl, by decide +kernel, rfl, by decide +kernel, by decide +kernel⟩, ⟨f_saying_by, rfl, rfl, rfl, by decide +kernel⟩, ?_, ?_⟩
  · intro kV doc pm an cdv ct us hl
    have hl : us.length = 2 := hl
    match us, hl with
    | [_, _], _ => rfl
  · intro q hq
    have : kwsOf (txt.cc []) 22 = [] := rfl
    rw [this] at hq
    cases hq
theorem st23 : Stat txt 23 (Str.ofString "plain_of") s23 N23 P23 := by
  refine ⟨⟨rfl, rfl, rfl, by decide +kernel, rfl, by decide +kernel, by decide +kernel⟩, ⟨f_plain_of, rfl, rfl, rfl, by decide +kernel⟩, ?_, ?_⟩
  · intro kV doc pm an cdv ct us hl
    have hl : us.length = 1 := hl
    match us, hl with
    | [_], _ => rfl
  · intro q hq
    have : kwsOf (txt.cc []) 23 = [] := rfl
    rw [this] at hq
    cases hq
theorem st24 : Stat txt 24 (Str.ofString "is_saying") s24 N24 P24 := by
  refine ⟨⟨rfl, rfl, rfl, by decide +kernel, rfl, by decide +kernel, by decide +kernel⟩, ⟨f_is_saying, rfl, rfl, rfl, by decide +kernel⟩, ?_, ?_⟩
  · intro kV doc pm an cdv ct us hl
    have hl : us.length = 1 := hl
    match us, hl with
    | [_], _ => rfl
  · intro q hq kV doc pm an cdv ct us ws h1 h2 _
    have e : kwsOf (txt.cc []) 24 = [(0, [Str.ofString "value"], [0])] := rfl
    rw [e] at hq
    simp only [List.mem_cons, List.mem_nil_iff, or_false] at hq
    rcases hq with rfl
    · have h1 : us.length = 0 := h1
      have h2 : ws.length = 1 := h2
      match us, h1, ws, h2 with
      | [], _, [_], _ => rfl
theorem st25 : Stat txt 25 (Str.ofString "is_good") s25 N25 P25 := by
  refine ⟨⟨rfl, rfl, rfl, by decide +kernel, rfl, by decide +kernel, by decide +kernel⟩, ⟨f_is_good, rfl, rfl, rfl, by decide +kernel⟩, ?_, ?_⟩
  · intro kV doc pm an cdv ct us hl
    have hl : us.length = 1 := hl
    match us, hl with
    | [_], _ => rfl
  · intro q hq kV doc pm an cdv ct us ws h1 h2 _
    have e : kwsOf (txt.cc []) 25 = [(0, [Str.ofString "value"], [0])] := rfl
    rw [e] at hq
    simp only [List.mem_cons, List.mem_nil_iff, or_false] at hq
    rcases hq with rfl
    · have h1 : us.length = 0 := h1
      have h2 : ws.length = 1 := h2
      match us, h1, ws, h2 with
      | [], _, [_], _ => rfl
theorem st26 : Stat txt 26 (Str.ofString "sum_for") s26 N26 P26 := by
  refine ⟨⟨rfl, rfl, rfl, by decide +kernel, rfl, by decide +kernel, by decide +kernel⟩, ⟨f_sum_for, rfl, rfl, rfl, by decide +kernel⟩, ?_, ?_⟩
  · intro kV doc pm an cdv ct us hl
    have hl : us.length = 2 := hl
    match us, hl with
    | [_, _], _ => rfl
  · intro q hq kV doc pm an cdv ct us ws h1 h2 _
    have e : kwsOf (txt.cc []) 26 = [(0, [Str.ofString "table", Str.ofString "saying"], [1, 0])] := rfl
    rw [e] at hq
    simp only [List.mem_cons, List.mem_nil_iff, or_false] at hq
    rcases hq with rfl
    · have h1 : us.length = 0 := h1
      have h2 : ws.length = 2 := h2
      match us, h1, ws, h2 with
      | [], _, [_, _], _ => rfl
theorem st27 : Stat txt 27 (Str.ofString "plain_sayings") s27 N27 P27 := by
  refine ⟨⟨rfl, rfl, rfl, by decide +kernel, rfl, by decide +kernel, by decide +kernel⟩, ⟨f_plain_sayings, rfl, rfl, rfl, by decide +kernel⟩, ?_, ?_⟩
  · intro kV doc pm an cdv ct us hl
    have hl : us.length = 1 := hl
    match us, hl with
    | [_], _ => rfl
  · intro q hq kV doc pm an cdv ct us ws h1 h2 _
    have e : kwsOf (txt.cc []) 27 = [(0, [Str.ofString "number"], [0])] := rfl
    rw [e] at hq
    simp only [List.mem_cons, List.mem_nil_iff, or_false] at hq
    rcases hq with rfl
    · have h1 : us.length = 0 := h1
      have h2 : ws.length = 1 := h2
      match us, h1, ws, h2 with
      | [], _, [_], _ => rfl
theorem st28 : Stat txt 28 (Str.ofString "saying_plus") s28 N28 P28 := by
  refine ⟨⟨rfl, rfl, rfl, by decide +kernel, rfl, by decide +kernel, by decide +kernel⟩, ⟨f_saying_plus, rfl, rfl, rfl, by decide +kernel⟩, ?_, ?_⟩
  · intro kV doc pm an cdv ct us hl
    have hl : us.length = 2 := hl
    match us, hl with
    | [_, _], _ => rfl
  · intro q hq kV doc pm an cdv ct us ws h1 h2 _
    have e : kwsOf (txt.cc []) 28 = [(0, [Str.ofString "other", Str.ofString "saying"], [1, 0])] := rfl
    rw [e] at hq
    simp only [List.mem_cons, List.mem_nil_iff, or_false] at hq
    rcases hq with rfl
    · have h1 : us.length = 0 := h1
      have h2 : ws.length = 2 := h2
      match us, h1, ws, h2 with
      | [], _, [_, _], _ => rfl
theorem st29 : Stat txt 29 (Str.ofString "saying_renamed") s29 N29 P29 := by
  refine ⟨⟨rfl, rfl, rfl, by decide +kernel, rfl, by decide +kernel, by decide +kernel⟩, ⟨f_saying_renamed, rfl, rfl, rfl, by decide +kernel⟩, ?_, ?_⟩
  · intro kV doc pm an cdv ct us hl
    have hl : us.length = 2 := hl
    match us, hl with
    | [_, _], _ => rfl
  · intro q hq kV doc pm an cdv ct us ws h1 h2 _
    have e : kwsOf (txt.cc []) 29 = [(0, [Str.ofString "order", Str.ofString "saying"], [1, 0])] := rfl
    rw [e] at hq
    simp only [List.mem_cons, List.mem_nil_iff, or_false] at hq
    rcases hq with rfl
    · have h1 : us.length = 0 := h1
      have h2 : ws.length = 2 := h2
      match us, h1, ws, h2 with
      | [], _, [_, _], _ => rfl
theorem st30 : Stat txt 30 (Str.ofString "_law_pot") s30 N30 P30 := by
  refine ⟨⟨rfl, rfl, rfl, by decide +kernel, rfl, by decide +kernel, by decide +kernel⟩, ⟨f__law_pot, rfl, rfl, rfl, by decide +kernel⟩, ?_, ?_⟩
  · intro kV doc pm an cdv ct us hl
    have hl : us.length = 2 := hl
    match us, hl with
    | [_, _], _ => rfl
  · intro q hq
    have : kwsOf (txt.cc []) 30 = [] := rfl
    rw [this] at hq
    cases hq
theorem st31 : Stat txt 31 (Str.ofString "_law_draw") s31 N31 P31 := by
  refine ⟨⟨rfl, rfl, rfl, by decide +kernel, rfl, by decide +kernel, by decide +kernel⟩, ⟨f__law_draw, rfl, rfl, rfl, by decide +kernel⟩, ?_, ?_⟩
  · intro kV doc pm an cdv ct us hl
    have hl : us.length = 2 := hl
    match us, hl with
    | [_, _], _ => rfl
  · intro q hq
    have : kwsOf (txt.cc []) 31 = [] := rfl
    rw [this] at hq
    cases hq
theorem st32 : Stat txt 32 (Str.ofString "_law_pick") s32 N32 P32 := by
  refine ⟨⟨rfl, rfl, rfl, by decide +kernel, rfl, by decide +kernel, by decide +kernel⟩, ⟨f__law_pick, rfl, rfl, rfl, by decide +kernel⟩, ?_, ?_⟩
  · intro kV doc pm an cdv ct us hl
    have hl : us.length = 2 := hl
    match us, hl with
    | [_, _], _ => rfl
  · intro q hq
    have : kwsOf (txt.cc []) 32 = [] := rfl
    rw [this] at hq
    cases hq
theorem st33 : Stat txt 33 (Str.ofString "_law_lots") s33 N33 P33 := by
  refine ⟨⟨rfl, rfl, rfl, by decide +kernel, rfl, by decide +kernel, by decide +kernel⟩, ⟨f__law_lots, rfl, rfl, rfl, by decide +kernel⟩, ?_, ?_⟩
  · intro kV doc pm an cdv ct us hl
    have hl : us.length = 1 := hl
    match us, hl with
    | [_], _ => rfl
  · intro q hq
    have : kwsOf (txt.cc []) 33 = [] := rfl
    rw [this] at hq
    cases hq
theorem st34 : Stat txt 34 (Str.ofString "_law_number") s34 N34 P34 := by
  refine ⟨⟨rfl, rfl, rfl, by decide +kernel, rfl, by decide +kernel, by decide +kernel⟩, ⟨f__law_number, rfl, rfl, rfl, by decide +kernel⟩, ?_, ?_⟩
  · intro kV doc pm an cdv ct us hl
    have hl : us.length = 1 := hl
    match us, hl with
    | [_], _ => rfl
  · intro q hq
    have : kwsOf (txt.cc []) 34 = [] := rfl
    rw [this] at hq
    cases hq
theorem st35 : Stat txt 35 (Str.ofString "_law_worth") s35 N35 P35 := by
  refine ⟨⟨rfl, rfl, rfl, by decide +kernel, rfl, by decide +kernel, by decide +kernel⟩, ⟨f__law_worth, rfl, rfl, rfl, by decide +kernel⟩, ?_, ?_⟩
  · intro kV doc pm an cdv ct us hl
    have hl : us.length = 2 := hl
    match us, hl with
    | [_, _], _ => rfl
  · intro q hq
    have : kwsOf (txt.cc []) 35 = [] := rfl
    rw [this] at hq
    cases hq
theorem st36 : Stat txt 36 (Str.ofString "_law_with") s36 N36 P36 := by
  refine ⟨⟨rfl, rfl, rfl, by decide +kernel, rfl, by decide +kernel, by decide +kernel⟩, ⟨f__law_with, rfl, rfl, rfl, by decide +kernel⟩, ?_, ?_⟩
  · intro kV doc pm an cdv ct us hl
    have hl : us.length = 2 := hl
    match us, hl with
    | [_, _], _ => rfl
  · intro q hq
    have : kwsOf (txt.cc []) 36 = [] := rfl
    rw [this] at hq
    cases hq
theorem st37 : Stat txt 37 (Str.ofString "_law_is_less") s37 N37 P37 := by
  refine ⟨⟨rfl, rfl, rfl, by decide +kernel, rfl, by decide +kernel, by decide +kernel⟩, ⟨f__law_is_less, rfl, rfl, rfl, by decide +kernel⟩, ?_, ?_⟩
  · intro kV doc pm an cdv ct us hl
    have hl : us.length = 1 := hl
    match us, hl with
    | [_], _ => rfl
  · intro q hq
    have : kwsOf (txt.cc []) 37 = [] := rfl
    rw [this] at hq
    cases hq
theorem st38 : Stat txt 38 (Str.ofString "_law_less_table") s38 N38 P38 := by
  refine ⟨⟨rfl, rfl, rfl, by decide +kernel, rfl, by decide +kernel, by decide +kernel⟩, ⟨f__law_less_table, rfl, rfl, rfl, by decide +kernel⟩, ?_, ?_⟩
  · intro kV doc pm an cdv ct us hl
    have hl : us.length = 2 := hl
    match us, hl with
    | [_, _], _ => rfl
  · intro q hq
    have : kwsOf (txt.cc []) 38 = [] := rfl
    rw [this] at hq
    cases hq
theorem st39 : Stat txt 39 (Str.ofString "_law_plain_sayings") s39 N39 P39 := by
  refine ⟨⟨rfl, rfl, rfl, by decide +kernel, rfl, by decide +kernel, by decide +kernel⟩, ⟨f__law_plain_sayings, rfl, rfl, rfl, by decide +kernel⟩, ?_, ?_⟩
  · intro kV doc pm an cdv ct us hl
    have hl : us.length = 1 := hl
    match us, hl with
    | [_], _ => rfl
  · intro q hq
    have : kwsOf (txt.cc []) 39 = [] := rfl
    rw [this] at hq
    cases hq
theorem st40 : Stat txt 40 (Str.ofString "_law_sum_for") s40 N40 P40 := by
  refine ⟨⟨rfl, rfl, rfl, by decide +kernel, rfl, by decide +kernel, by decide +kernel⟩, ⟨f__law_sum_for, rfl, rfl, rfl, by decide +kernel⟩, ?_, ?_⟩
  · intro kV doc pm an cdv ct us hl
    have hl : us.length = 2 := hl
    match us, hl with
    | [_, _], _ => rfl
  · intro q hq
    have : kwsOf (txt.cc []) 40 = [] := rfl
    rw [this] at hq
    cases hq
theorem st41 : Stat txt 41 (Str.ofString "_law_is_good") s41 N41 P41 := by
  refine ⟨⟨rfl, rfl, rfl, by decide +kernel, rfl, by decide +kernel, by decide +kernel⟩, ⟨f__law_is_good, rfl, rfl, rfl, by decide +kernel⟩, ?_, ?_⟩
  · intro kV doc pm an cdv ct us hl
    have hl : us.length = 1 := hl
    match us, hl with
    | [_], _ => rfl
  · intro q hq
    have : kwsOf (txt.cc []) 41 = [] := rfl
    rw [this] at hq
    cases hq
theorem st42 : Stat txt 42 (Str.ofString "_law_saying") s42 N42 P42 := by
  refine ⟨⟨rfl, rfl, rfl, by decide +kernel, rfl, by decide +kernel, by decide +kernel⟩, ⟨f__law_saying, rfl, rfl, rfl, by decide +kernel⟩, ?_, ?_⟩
  · intro kV doc pm an cdv ct us hl
    have hl : us.length = 2 := hl
    match us, hl with
    | [_, _], _ => rfl
  · intro q hq
    have : kwsOf (txt.cc []) 42 = [] := rfl
    rw [this] at hq
    cases hq
theorem st43 : Stat txt 43 (Str.ofString "_law_is_saying") s43 N43 P43 := by
  refine ⟨⟨rfl, rfl, rfl, by decide +kernel, rfl, by decide +kernel, by decide +kernel⟩, ⟨f__law_is_saying, rfl, rfl, rfl, by decide +kernel⟩, ?_, ?_⟩
  · intro kV doc pm an cdv ct us hl
    have hl : us.length = 1 := hl
    match us, hl with
    | [_], _ => rfl
  · intro q hq
    have : kwsOf (txt.cc []) 43 = [] := rfl
    rw [this] at hq
    cases hq
theorem st44 : Stat txt 44 (Str.ofString "_law_right") s44 N44 P44 := by
  refine ⟨⟨rfl, rfl, rfl, by decide +kernel, rfl, by decide +kernel, by decide +kernel⟩, ⟨f__law_right, rfl, rfl, rfl, by decide +kernel⟩, ?_, ?_⟩
  · intro kV doc pm an cdv ct us hl
    have hl : us.length = 1 := hl
    match us, hl with
    | [_], _ => rfl
  · intro q hq
    have : kwsOf (txt.cc []) 44 = [] := rfl
    rw [this] at hq
    cases hq
theorem st45 : Stat txt 45 (Str.ofString "law") s45 N45 P45 := by
  refine ⟨⟨rfl, rfl, rfl, by decide +kernel, rfl, by decide +kernel, by decide +kernel⟩, ⟨f_law, rfl, rfl, rfl, by decide +kernel⟩, ?_, ?_⟩
  · intro kV doc pm an cdv ct us hl
    have hl : us.length = 1 := hl
    match us, hl with
    | [_], _ => rfl
  · intro q hq
    have : kwsOf (txt.cc []) 45 = [] := rfl
    rw [this] at hq
    cases hq
end L89

set_option linter.all false
set_option maxRecDepth 100000
set_option maxHeartbeats 4000000
namespace L89
open PySem Mi L2
/-! A1: the words of basics and tables: what is an integer, a table; lots, worths. -/
theorem cl_s (k i : Nat) (ds : List D) (m : Mu) : callF txt.fs txt.consts 1000 (k + 1) i ds m = match txt.fs[i]? with
    | some fn => if ds.length = fn.pars then endF (evSs ⟨txt.consts, callF txt.fs txt.consts 1000 k⟩ 1000 fn.body (startS fn ds) m) else .bad
    | none => .bad := rfl
theorem cl_u {k i : Nat} {ds : List D} {m : Mu} {fn : Fn} (hk : 1 ≤ k) (h : txt.fs[i]? = some fn) (hl : ds.length = fn.pars) : callF txt.fs txt.consts 1000 k i ds m = endF (evSs ⟨txt.consts, callF txt.fs txt.consts 1000 (k - 1)⟩ 1000 fn.body (startS fn ds) m) := by
  obtain ⟨k, rfl⟩ : ∃ j, k = j + 1 := ⟨k - 1, by omega⟩
  rw [cl_s, h]
  simp only [hl, if_true, Nat.add_sub_cancel]
abbrev C (k : Nat) := callF txt.fs txt.consts 1000 k
/-- no list of the store, no script -/
def top : D → Bool
  | .ref _ => false | .scr _ => false | _ => true
def isI : D → Bool
  | .int _ => true | _ => false
def inW (a b : Int) : D → Bool
  | .int i => decide (a ≤ i) && decide (i ≤ b) | _ => false
def isS : D → Bool
  | .lst _ => true | .tup _ => true | _ => false
def isT : D → Bool
  | .tup _ => true | _ => false
theorem isa_int {d : D} (h : top d = true) : isaD .int d = some (match d with | .int _ => true | .bl _ => true | _ => false) := by cases d <;> first | rfl | cases h
theorem isa_bool {d : D} (h : top d = true) : isaD .bool d = some (match d with | .bl _ => true | _ => false) := by cases d <;> first | rfl | cases h
theorem isa_seq {d : D} (h : top d = true) : isaD .seq d = some (isS d) := by cases d <;> first | rfl | cases h
theorem isa_tup {d : D} (h : top d = true) : isaD .tuple d = some (isT d) := by cases d <;> first | rfl | cases h
theorem r_is_integer {k : Nat} (hk : 1 ≤ k) (m : Mu) {d : D} (h : top d = true) : callF txt.fs txt.consts 1000 k i_is_integer [d] m = .ok (.bl (isI d)) m := by
  rw [cl_u hk h_is_integer rfl]
  simp [f_is_integer, startS, isa_int h, isa_bool h]
  cases d <;> first | rfl | cases h
theorem r_is_within {k : Nat} (hk : 2 ≤ k) (m : Mu) {d : D} (h : top d = true) (a b : Int) : callF txt.fs txt.consts 1000 k i_is_within [d, .int a, .int b] m = .ok (.bl (inW a b d)) m := by
  rw [cl_u (by omega) h_is_within rfl]
  simp [f_is_within, startS, r_is_integer (k := k - 1) (by omega) m h]
  cases d <;> first | rfl | (cases h; done) | skip
  rename_i i
  simp [isI, inW]
  by_cases h1 : a ≤ i <;> simp [h1]
theorem r_is_list {k : Nat} (hk : 1 ≤ k) (m : Mu) {d : D} (h : top d = true) : callF txt.fs txt.consts 1000 k i_is_list [d] m = .ok (.bl (isS d)) m := by
  rw [cl_u hk h_is_list rfl]
  simp [f_is_list, startS, isa_seq h]
end L89

set_option linter.all false
set_option maxRecDepth 100000
set_option maxHeartbeats 4000000
namespace L89
open PySem Mi L2
/-! A2: lots and their numbers, worths, gains. -/
def iD (l : List Int) : List D := l.map .int
def lotD (ls : List Int) : D := .tup (ls.map .int)
def powL : List D := [.int 1, .int 2, .int 4, .int 8, .int 16, .int 32]
/-- the things of a lot: from 0 to 4 -/
def Th5 (ls : List Int) : Prop := ∀ t ∈ ls, 0 ≤ t ∧ t < 5
def numI (ls : List Int) : Nat := (ls.map fun t => 2 ^ t.toNat).sum
theorem Th5.app {ls ks : List Int} (h : Th5 ls) (h2 : Th5 ks) : Th5 (ls ++ ks) := fun t ht => (List.mem_append.mp ht).elim (h t) (h2 t)
theorem Th5.one {t : Int} (h : 0 ≤ t ∧ t < 5) : Th5 [t] := fun x hx => by rw [List.mem_singleton.mp hx]; exact h
theorem Th5.perm {ls ks : List Int} (h : Th5 ls) (p : ks.Perm ls) : Th5 ks := fun t ht => h t (p.mem_iff.mp ht)
theorem Th5.sort {ls : List Int} (h : Th5 ls) : Th5 (isort ls) := h.perm (isort_perm ls)
theorem numI_perm {ls ks : List Int} (p : ls.Perm ks) : numI ls = numI ks := by
  unfold numI
  induction p with
  | nil => rfl
  | cons _ _ ih => simp only [List.map_cons, List.sum_cons, ih]
  | swap _ _ _ =>
    simp only [List.map_cons, List.sum_cons]
    omega
  | trans _ _ h1 h2 => exact h1.trans h2
theorem numI_app (ls ks : List Int) : numI (ls ++ ks) = numI ls + numI ks := by
  unfold numI
  rw [List.map_append, List.sum_append]
theorem numI_one (t : Int) : numI [t] = 2 ^ t.toNat := by simp [numI]
theorem pow_idx {t : Int} (h : 0 ≤ t ∧ t < 5) : ∀ m : Mu, idxD m (.tup powL) (.int t) = some (.int ((2 ^ t.toNat : Nat) : Int)) := fun m => by
  obtain ⟨h1, h2⟩ := h
  have : t = 0 ∨ t = 1 ∨ t = 2 ∨ t = 3 ∨ t = 4 := by omega
  rcases this with rfl | rfl | rfl | rfl | rfl <;> rfl
theorem sum_nat (l : List Int) (f : Int → Nat) : (l.map fun t => ((f t : Nat) : Int)).sum = ((l.map f).sum : Nat) := by
  induction l with
  | nil => rfl
  | cons a r ih => simp [ih]
theorem small_len {ls : List Int} (h : ls.length ≤ 16777216) : ls.length ≤ 16777216 := h
theorem r_number_by {k : Nat} (hk : 1 ≤ k) (m : Mu) {ls : List Int} (h : Th5 ls) (hl : ls.length ≤ 1000) : callF txt.fs txt.consts 1000 k i_number_by [lotD ls] m = .ok (.int (numI ls : Nat)) m := by
  rw [cl_u hk h_number_by rfl]
  simp [f_number_by, startS]
  rw [x_number_by_0, comp_map ls D.int (fun t => D.int ((2 ^ t.toNat : Nat) : Int)) (by simp [lotD]; rfl) (by simp) (fun t ht => ⟨_, rfl, by simp [k_POWERS]; exact congrArg (Res.of · m) (pow_idx (h t ht) m)⟩) (by omega)]
  have : (ls.map fun t => D.int ((2 ^ t.toNat : Nat) : Int)) = (ls.map fun t => ((2 ^ t.toNat : Nat) : Int)).map D.int := by rw [List.map_map]; rfl
  rw [this]
  simp only [bind_ok', sum_ints, of_some, st_ok', endF_rt]
  rw [sum_nat]
  rfl
/-- a table: a list or a tuple of worths -/
def seqD (b : Bool) (xs : List D) : D := if b then .lst xs else .tup xs
def tabD (n : Nat) (b : Bool) (ws : List Int) : D := .tup [.int n, seqD b (ws.map .int)]
def W (ws : List Int) (s : Nat) : Int := ws.getD s 0
theorem idx_seq {b : Bool} {xs : List D} {i : Nat} {d : D} (m : Mu) (h : xs[i]? = some d) : idxD m (seqD b xs) (.int i) = some d := by
  cases b
  · exact (idx_t m xs i).trans ((at_nat xs i).trans h)
  · exact (idx_l m xs i).trans ((at_nat xs i).trans h)
theorem getW {ws : List Int} {s : Nat} (h : s < ws.length) : (ws.map D.int)[s]? = some (.int (W ws s)) := by
  rw [List.getElem?_map, List.getElem?_eq_getElem h]
  simp [W, h]
theorem r_worth_of {k : Nat} (hk : 2 ≤ k) (m : Mu) {n : Nat} {b : Bool} {ws ls : List Int} (h : Th5 ls) (hl : ls.length ≤ 1000) (hi : numI ls < ws.length) : callF txt.fs txt.consts 1000 k i_worth_of [tabD n b ws, lotD ls] m = .ok (.int (W ws (numI ls))) m := by
  rw [cl_u (by omega) h_worth_of rfl]
  have e := idx_seq (b := b) m (getW hi)
  simp [f_worth_of, startS, tabD, r_number_by (k := k - 1) (by omega) m h hl, e]
theorem add_lot {ls ks : List Int} (h : ls.length + ks.length ≤ 1000) : binop .Add (lotD ls) (lotD ks) = some (lotD (ls ++ ks)) := by
  show (if fit ((ls.map D.int).length + (ks.map D.int).length) then some (D.tup (ls.map D.int ++ ks.map D.int)) else none) = _
  rw [List.length_map, List.length_map, if_pos (show fit _ = true from decide_eq_true (by omega))]
  simp [lotD]
theorem lot1 (t : Int) : lotD [t] = .tup [.int t] := rfl
theorem sorted_lot (ls : List Int) : b1op .sorted (lotD ls) = some (.lst ((isort ls).map .int)) := by simp [b1op, lotD, ints_map]
theorem r_lot_with {k : Nat} (hk : 1 ≤ k) (m : Mu) {ls : List Int} (hl : ls.length ≤ 999) (t : Int) : callF txt.fs txt.consts 1000 k i_lot_with [lotD ls, .int t] m = .ok (lotD (isort (ls ++ [t]))) m := by
  rw [cl_u hk h_lot_with rfl]
  have e := add_lot (ls := ls) (ks := [t]) (by simp; omega)
  simp only [lot1] at e
  simp [f_lot_with, startS, e, sorted_lot]
  rfl
theorem r_gain_of {k : Nat} (hk : 3 ≤ k) (m : Mu) {n : Nat} {b : Bool} {ws ls : List Int} (h : Th5 ls) (hl : ls.length ≤ 900) {t : Int} (ht : 0 ≤ t ∧ t < 5) (hi : numI ls + 2 ^ t.toNat < ws.length) : callF txt.fs txt.consts 1000 k i_gain_of [tabD n b ws, lotD ls, .int t] m = .ok (.int (W ws (numI ls + 2 ^ t.toNat) - W ws (numI ls))) m := by
  rw [cl_u (by omega) h_gain_of rfl]
  have e : numI (isort (ls ++ [t])) = numI ls + 2 ^ t.toNat := by rw [numI_perm (isort_perm _), numI_app, numI_one]
  have e2 : (isort (ls ++ [t])).length = ls.length + 1 := by rw [(isort_perm _).length_eq]; simp
  have w1 := r_worth_of (k := k - 1) (by omega) m (n := n) (b := b) (ws := ws) (h.app (.one ht)).sort (by omega) (by rw [e]; omega)
  have w2 := r_worth_of (k := k - 1) (by omega) m (n := n) (b := b) (ws := ws) h (by omega) (Nat.lt_of_le_of_lt (Nat.le_add_right _ _) hi)
  rw [e] at w1
  simp [f_gain_of, startS, r_lot_with (k := k - 1) (by omega) m (ls := ls) (by omega) t, w1, w2]
@[simp] theorem items_lot (ls : List Int) : itemsD .seq [lotD ls] = some (ls.map D.int) := rfl
@[simp] theorem enum_lot (ls : List Int) : itemsD .enum [lotD ls] = some (ls.zipIdx.map fun q => .tup [.int (q.2 : Nat), .int q.1]) := items_enT D.int ls
@[simp] theorem slL_lot (ls : List Int) (k : Nat) : slLI (lotD ls) (.int (k : Int)) = some (lotD (ls.drop k)) := by
  rw [lotD, slL_t, lotD, List.map_drop]
@[simp] theorem slH_lot (ls : List Int) (k : Nat) : slHI (lotD ls) (.int (k : Int)) = some (lotD (ls.take k)) := by
  rw [lotD, slH_t, lotD, List.map_take]
@[simp] theorem in_lot (t : Int) (ls : List Int) : inD (.int t) (lotD ls) = some (ls.contains t) := inD_ints t ls
@[simp] theorem len_lot (ls : List Int) : b1op .len (lotD ls) = some (.int ls.length) := by simp [lotD]
@[simp] theorem slL_lot1 (ls : List Int) (k : Nat) : slLI (lotD ls) (.int ((k : Int) + 1)) = some (lotD (ls.drop (k + 1))) := slL_lot ls (k + 1)
end L89

set_option linter.all false
set_option maxRecDepth 100000
set_option maxHeartbeats 4000000
namespace L89
open PySem Mi L2
/-! A3: all lots, the rest, breaks. -/
def bitsI (s : Nat) : List Int := ([0, 1, 2, 3, 4] : List Nat).filterMap fun t => if s.testBit t then some (t : Int) else none
def lotsI (n : Nat) : List (List Int) := (List.range (2 ^ n)).map bitsI
def restI (n : Nat) (ls : List Int) : List Int := ((List.range n).map fun (t : Nat) => (t : Int)).filter fun t => !ls.contains t
theorem r_all_lots {k : Nat} (hk : 3 ≤ k) (m : Mu) {n : Nat} (hn : n ≤ 5) : callF txt.fs txt.consts 1000 k i_all_lots [.int n] m = .ok (.lst ((lotsI n).map lotD)) m := by
  obtain ⟨k, rfl⟩ : ∃ j, k = j + 3 := ⟨k - 3, by omega⟩
  have : n = 0 ∨ n = 1 ∨ n = 2 ∨ n = 3 ∨ n = 4 ∨ n = 5 := by omega
  rcases this with rfl | rfl | rfl | rfl | rfl | rfl <;> rfl
theorem r_rest_of {k : Nat} (hk : 1 ≤ k) (m : Mu) {n : Nat} (hn : n ≤ 1000) (ls : List Int) : callF txt.fs txt.consts 1000 k i_rest_of [.int n, lotD ls] m = .ok (lotD (restI n ls)) m := by
  rw [cl_u hk h_rest_of rfl]
  simp [f_rest_of, startS]
  rw [x_rest_of_0, comp_filter ((List.range n).map fun (t : Nat) => (t : Int)) D.int D.int (fun t => !ls.contains t) (by simp; rfl) (by rw [List.map_map]; exact items_rng (by omega)) (fun t _ => ⟨_, rfl, by simp, fun _ => by simp⟩) (by simp; omega)]
  simp [restI, lotD]
end L89

set_option linter.all false
set_option maxRecDepth 100000
set_option maxHeartbeats 4000000
namespace L89
open PySem Mi L2
/-! A4: breaks and falls. -/
/-- what t adds at s -/
def Gn (ws : List Int) (s : Nat) (t : Int) : Int := W ws (s + 2 ^ t.toNat) - W ws s
def brk (ws : List Int) (s : Nat) (t u : Int) : Bool := decide (Gn ws s t < Gn ws (s + 2 ^ u.toNat) t)
def anyBrk (n : Nat) (ws : List Int) : Bool := (lotsI n).any fun ls => (restI n ls).zipIdx.any fun q => ((restI n ls).drop (q.2 + 1)).any fun u => brk ws (numI ls) q.1 u
def anyFall (n : Nat) (ws : List Int) : Bool := (lotsI n).any fun ls => (restI n ls).any fun t => decide (Gn ws (numI ls) t < 0)
/-- of all lots of n things -/
structure LotOk (n : Nat) (ls : List Int) : Prop where
  th : Th5 ls
  len : ls.length ≤ 5
  one : ∀ t ∈ restI n ls, (0 ≤ t ∧ t < 5) ∧ numI ls + 2 ^ t.toNat < 2 ^ n
  two : ∀ t ∈ restI n ls, ∀ u ∈ restI n ls, t ≠ u → numI ls + 2 ^ u.toNat + 2 ^ t.toNat < 2 ^ n
  own : numI ls < 2 ^ n
  nd : (restI n ls).Nodup
instance (ls : List Int) : Decidable (Th5 ls) := inferInstanceAs (Decidable (∀ t ∈ ls, 0 ≤ t ∧ t < 5))
theorem lots_ok {n : Nat} (hn : n ≤ 5) : ∀ ls ∈ lotsI n, LotOk n ls := by
  have key : ∀ ls ∈ lotsI n, Th5 ls ∧ ls.length ≤ 5 ∧ (∀ t ∈ restI n ls, (0 ≤ t ∧ t < 5) ∧ numI ls + 2 ^ t.toNat < 2 ^ n) ∧ (∀ t ∈ restI n ls, ∀ u ∈ restI n ls, t ≠ u → numI ls + 2 ^ u.toNat + 2 ^ t.toNat < 2 ^ n) ∧ numI ls < 2 ^ n ∧ (restI n ls).Nodup := by
    have : n = 0 ∨ n = 1 ∨ n = 2 ∨ n = 3 ∨ n = 4 ∨ n = 5 := by omega
    rcases this with rfl | rfl | rfl | rfl | rfl | rfl <;> decide +kernel
  intro ls h
  obtain ⟨h1, h2, h3, h4, h5, h6⟩ := key ls h
  exact ⟨h1, h2, h3, h4, h5, h6⟩
theorem r_does_break {k : Nat} (hk : 4 ≤ k) (m : Mu) {n : Nat} {b : Bool} {ws ls : List Int} (h : LotOk n ls) (hw : ws.length = 2 ^ n) {t u : Int} (ht : t ∈ restI n ls) (hu : u ∈ restI n ls) (htu : t ≠ u) :
    callF txt.fs txt.consts 1000 k i_does_break [tabD n b ws, lotD ls, .int t, .int u] m = .ok (.bl (brk ws (numI ls) t u)) m := by
  rw [cl_u (by omega) h_does_break rfl]
  have e : numI (isort (ls ++ [u])) = numI ls + 2 ^ u.toNat := by rw [numI_perm (isort_perm _), numI_app, numI_one]
  have e2 : (isort (ls ++ [u])).length = ls.length + 1 := by rw [(isort_perm _).length_eq]; simp
  have hl := h.len
  have g1 := r_gain_of (k := k - 1) (by omega) m (n := n) (b := b) (ws := ws) (h.th.app (.one (h.one u hu).1)).sort (by omega) (h.one t ht).1 (by rw [e, hw]; exact h.two t ht u hu htu)
  have g2 := r_gain_of (k := k - 1) (by omega) m (n := n) (b := b) (ws := ws) h.th (by omega) (h.one t ht).1 (by rw [hw]; exact (h.one t ht).2)
  rw [e] at g1
  simp [f_does_break, startS, r_lot_with (k := k - 1) (by omega) m (ls := ls) (by omega) u, g1, g2]
  rfl
theorem zip_mem {ls : List Int} {q : Int × Nat} (h : q ∈ ls.zipIdx) : q.1 ∈ ls ∧ ls[q.2]? = some q.1 := by
  have := List.mk_mem_zipIdx_iff_getElem?.mp (show (q.1, q.2) ∈ ls.zipIdx from h)
  exact ⟨List.mem_of_getElem? this, this⟩
theorem drop_ne {ls : List Int} (nd : ls.Nodup) {q : Int × Nat} (h : q ∈ ls.zipIdx) {u : Int} (hu : u ∈ ls.drop (q.2 + 1)) : u ∈ ls ∧ q.1 ≠ u := by
  refine ⟨List.mem_of_mem_drop hu, fun z => ?_⟩
  obtain ⟨j, hj, e⟩ := List.getElem_of_mem hu
  rw [List.getElem_drop] at e
  obtain ⟨h1, h2⟩ := List.getElem?_eq_some_iff.mp (zip_mem h).2
  rw [← z, ← h2] at e
  have := (List.getElem_inj nd).mp e
  omega
theorem drop_map (l : List Int) (j : Nat) : (l.map D.int).drop j = (l.drop j).map D.int := List.map_drop.symm
theorem nat_succ (j : Nat) : ((j : Nat) : Int) + 1 = ((j + 1 : Nat) : Int) := by omega
theorem r_first_break {k : Nat} (hk : 5 ≤ k) (m : Mu) {n : Nat} {b : Bool} {ws : List Int} (hn : n ≤ 5) (hw : ws.length = 2 ^ n) :
    ∃ d, callF txt.fs txt.consts 1000 k i_first_break [tabD n b ws] m = .ok d m ∧ isNon d = !anyBrk n ws := by
  rw [cl_u (by omega) h_first_break rfl]
  have ra := r_all_lots (k := k - 1) (by omega) m hn
  have q := for_find (f := forB ⟨txt.consts, callF txt.fs txt.consts 1000 (k - 1)⟩ 1000 (.nm 1) b_first_break_2) lotD (m := m)
    (fun r => ∃ a1 a2 a3 a4 a5, r = [.val (tabD n b ws), a1, a2, a3, a4, a5]) (fun ls => (restI n ls).zipIdx.any fun q => ((restI n ls).drop (q.2 + 1)).any fun u => brk ws (numI ls) q.1 u) (fun d => isNon d = false)
    (lotsI n) [.val (tabD n b ws), .un, .un, .un, .un, .un] ⟨_, _, _, _, _, rfl⟩ (by
    rintro ls hls r ⟨a1, a2, a3, a4, a5, rfl⟩
    have ok := lots_ok hn ls hls
    have rr := r_rest_of (k := k - 1) (by omega) m (n := n) (by omega) ls
    have q2 := for_find (f := forB ⟨txt.consts, callF txt.fs txt.consts 1000 (k - 1)⟩ 1000 (.tp [3, 4]) b_first_break_1) (fun q : Int × Nat => D.tup [.int (q.2 : Nat), .int q.1]) (m := m)
      (fun r => ∃ a3 a4 a5, r = [.val (tabD n b ws), .val (lotD ls), .val (lotD (restI n ls)), a3, a4, a5]) (fun q => ((restI n ls).drop (q.2 + 1)).any fun u => brk ws (numI ls) q.1 u) (fun d => isNon d = false)
      (restI n ls).zipIdx [.val (tabD n b ws), .val (lotD ls), .val (lotD (restI n ls)), a3, a4, a5] ⟨_, _, _, rfl⟩ (by
      rintro q hq r ⟨a3, a4, a5, rfl⟩
      have q3 := for_find (f := forB ⟨txt.consts, callF txt.fs txt.consts 1000 (k - 1)⟩ 1000 (.nm 5) b_first_break_0) D.int (m := m)
        (fun r => ∃ a5, r = [.val (tabD n b ws), .val (lotD ls), .val (lotD (restI n ls)), .val (.int (q.2 : Nat)), .val (.int q.1), a5]) (fun u => brk ws (numI ls) q.1 u) (fun d => isNon d = false)
        ((restI n ls).drop (q.2 + 1)) [.val (tabD n b ws), .val (lotD ls), .val (lotD (restI n ls)), .val (.int (q.2 : Nat)), .val (.int q.1), a5] ⟨_, rfl⟩ (by
        rintro u hu r ⟨a5, rfl⟩
        obtain ⟨hu1, hu2⟩ := drop_ne ok.nd hq hu
        have rb := r_does_break (k := k - 1) (by omega) m (b := b) ok hw (zip_mem hq).1 hu1 hu2
        cases hb : brk ws (numI ls) q.1 u with
        | false =>
          rw [hb] at rb
          simp [forB, b_first_break_0, rb]
          exact ⟨rfl, ⟨_, rfl⟩, rfl⟩
        | true =>
          rw [hb] at rb
          simp [forB, b_first_break_0, rb]
          exact ⟨rfl, rfl, rfl⟩)
      simp [forB, b_first_break_1, bindT, setAll]
      rw [drop_map]
      exact q3.imp (fun r ⟨a5, h⟩ => ⟨_, _, _, h⟩) fun _ h => h)
    simp [forB, b_first_break_2, tabD, rr]
    exact q2.imp (fun r ⟨a3, a4, a5, h⟩ => ⟨_, _, _, _, _, h⟩) fun _ h => h)
  simp [f_first_break, startS, tabD, ra]
  obtain ⟨q1, q2⟩ := q.then fun r m => .rt .non m
  cases h : anyBrk n ws with
  | false =>
    obtain ⟨r, _, e⟩ := q1 h
    exact ⟨.non, by rw [tabD] at e; rw [e]; rfl, rfl⟩
  | true =>
    obtain ⟨d, hd, e⟩ := q2 h
    exact ⟨d, by rw [tabD] at e; rw [e]; rfl, hd⟩
end L89

set_option linter.all false
set_option maxRecDepth 100000
set_option maxHeartbeats 4000000
namespace L89
open PySem Mi L2
/-! A5: falls; what is a saying, a table, a good one. -/
theorem r_first_fall {k : Nat} (hk : 4 ≤ k) (m : Mu) {n : Nat} {b : Bool} {ws : List Int} (hn : n ≤ 5) (hw : ws.length = 2 ^ n) :
    ∃ d, callF txt.fs txt.consts 1000 k i_first_fall [tabD n b ws] m = .ok d m ∧ isNon d = !anyFall n ws := by
  rw [cl_u (by omega) h_first_fall rfl]
  have ra := r_all_lots (k := k - 1) (by omega) m hn
  have q := for_find (f := forB ⟨txt.consts, callF txt.fs txt.consts 1000 (k - 1)⟩ 1000 (.nm 1) b_first_fall_1) lotD (m := m)
    (fun r => ∃ a1 a2, r = [.val (tabD n b ws), a1, a2]) (fun ls => (restI n ls).any fun t => decide (Gn ws (numI ls) t < 0)) (fun d => isNon d = false)
    (lotsI n) [.val (tabD n b ws), .un, .un] ⟨_, _, rfl⟩ (by
    rintro ls hls r ⟨a1, a2, rfl⟩
    have ok := lots_ok hn ls hls
    have rr := r_rest_of (k := k - 1) (by omega) m (n := n) (by omega) ls
    have q3 := for_find (f := forB ⟨txt.consts, callF txt.fs txt.consts 1000 (k - 1)⟩ 1000 (.nm 2) b_first_fall_0) D.int (m := m)
        (fun r => ∃ a5, r = [.val (tabD n b ws), .val (lotD ls), a5]) (fun t => decide (Gn ws (numI ls) t < 0)) (fun d => isNon d = false)
        (restI n ls) [.val (tabD n b ws), .val (lotD ls), a2] ⟨_, rfl⟩ (by
        rintro u hu r ⟨a5, rfl⟩
        have hl := ok.len
        have rb := r_gain_of (k := k - 1) (by omega) m (n := n) (b := b) (ws := ws) ok.th (by omega) (ok.one u hu).1 (by rw [hw]; exact (ok.one u hu).2)
        have e : W ws (numI ls + 2 ^ u.toNat) - W ws (numI ls) = Gn ws (numI ls) u := rfl
        rw [e] at rb
        by_cases hb : Gn ws (numI ls) u < 0
        · simp [forB, b_first_fall_0, rb, hb]
          exact ⟨rfl, rfl, rfl⟩
        · simp [forB, b_first_fall_0, rb, hb]
          exact ⟨rfl, ⟨_, rfl⟩, rfl⟩)
    simp [forB, b_first_fall_1, tabD, rr]
    exact q3.imp (fun r ⟨a3, h⟩ => ⟨_, _, h⟩) fun _ h => h)
  simp [f_first_fall, startS, tabD, ra]
  obtain ⟨q1, q2⟩ := q.then fun r m => .rt .non m
  cases h : anyFall n ws with
  | false =>
    obtain ⟨r, _, e⟩ := q1 h
    exact ⟨.non, by rw [tabD] at e; rw [e]; rfl, rfl⟩
  | true =>
    obtain ⟨d, hd, e⟩ := q2 h
    exact ⟨d, by rw [tabD] at e; rw [e]; rfl, hd⟩
/-- a pair of a number of things and as many entries as lots, each of which p holds -/
def kids : D → List D
  | .lst l => l | .tup l => l | _ => []
def tabLike (lo hi : Int) (p : D → Bool) : D → Bool
  | .tup [.int a, b] => decide (lo ≤ a) && decide (a ≤ hi) && isS b && decide ((kids b).length = 2 ^ a.toNat) && (kids b).all p
  | _ => false
/-- no refs within -/
def top2 : D → Bool
  | .tup l => l.all fun x => top x && (kids x).all top
  | d => top d
theorem pow6 {t : Int} (h1 : 0 ≤ t) (h2 : t ≤ 5) (m : Mu) : idxD m (.tup powL) (.int t) = some (.int ((2 ^ t.toNat : Nat) : Int)) := by
  have : t = 0 ∨ t = 1 ∨ t = 2 ∨ t = 3 ∨ t = 4 ∨ t = 5 := by omega
  rcases this with rfl | rfl | rfl | rfl | rfl | rfl <;> rfl
theorem pow6' {t : Int} (h1 : 0 ≤ t) (h2 : t ≤ 5) (m : Mu) : ∃ P : Nat, P = 2 ^ t.toNat ∧ P ≤ 32 ∧ idxD m (.tup [.int 1, .int 2, .int 4, .int 8, .int 16, .int 32]) (.int t) = some (.int (P : Int)) := by
  have : t = 0 ∨ t = 1 ∨ t = 2 ∨ t = 3 ∨ t = 4 ∨ t = 5 := by omega
  rcases this with rfl | rfl | rfl | rfl | rfl | rfl
  · exact ⟨1, rfl, by decide, rfl⟩
  · exact ⟨2, rfl, by decide, rfl⟩
  · exact ⟨4, rfl, by decide, rfl⟩
  · exact ⟨8, rfl, by decide, rfl⟩
  · exact ⟨16, rfl, by decide, rfl⟩
  · exact ⟨32, rfl, by decide, rfl⟩
theorem seqI_kids {d : D} (h : isS d = true) : itemsD .seq [d] = some (kids d) := by cases d <;> first | rfl | cases h
theorem len_kids {d : D} (h : isS d = true) : b1op .len d = some (.int (kids d).length) := by cases d <;> first | rfl | cases h | (simp [kids]; done)
theorem all_bl (l : List D) (p : D → Bool) : b1op .all (.lst (l.map fun d => .bl (p d))) = some (.bl (l.all p)) := by
  have := all_bls (l.map p)
  rw [List.map_map] at this
  exact this.trans (by rw [List.all_map]; rfl)
theorem inW_int {a b : Int} {d : D} (h : inW a b d = true) : ∃ i, d = .int i ∧ a ≤ i ∧ i ≤ b := by
  cases d <;> first | (cases h; done) | skip
  rename_i i
  simp [inW] at h
  exact ⟨i, rfl, h.1, h.2⟩
theorem tabLike_tup (lo hi : Int) (p : D → Bool) (a b : D) : tabLike lo hi p (.tup [a, b]) = (inW lo hi a && (isS b && decide ((kids b).length = match a with | .int a => 2 ^ a.toNat | _ => 0) && (kids b).all p)) := by
  cases a <;> first | rfl | skip
  simp [tabLike, inW, Bool.and_assoc]
theorem tabLike_non {lo hi : Int} {p : D → Bool} {l : List D} (h : l.length ≠ 2) : tabLike lo hi p (.tup l) = false := by
  match l, h with
  | [], _ => rfl
  | [_], _ => simp [tabLike]
  | [_, _], h => exact absurd rfl h
  | _ :: _ :: _ :: _, _ => simp [tabLike]
theorem tabLike_top {lo hi : Int} {p : D → Bool} {d : D} (h : isT d = false) : tabLike lo hi p d = false := by
  cases d <;> first | rfl | cases h
theorem top2_pair {a b : D} (h : top2 (.tup [a, b]) = true) : top a = true ∧ top b = true ∧ ∀ x ∈ kids b, top x = true := by
  simp [top2] at h
  exact ⟨h.1.1, h.2.1, h.2.2⟩
theorem top2_top {d : D} (h : top2 d = true) : top d = true := by
  cases d <;> first | rfl | exact h
theorem tup_of {d : D} (h : isT d = true) : ∃ l, d = .tup l := by cases d <;> first | exact ⟨_, rfl⟩ | cases h
theorem pow_big {t : Int} (h1 : 0 ≤ t) (h2 : t ≤ 5) : 2 ^ t.toNat ≤ 32 := by
  have : t = 0 ∨ t = 1 ∨ t = 2 ∨ t = 3 ∨ t = 4 ∨ t = 5 := by omega
  rcases this with rfl | rfl | rfl | rfl | rfl | rfl <;> decide
theorem two_i (l : List D) : ((l.length : Int) = 2) ↔ l.length = 2 := by omega
theorem nat_pow_i (n : Nat) (t : Nat) : ((n : Int) = ((2 ^ t : Nat) : Int)) ↔ n = 2 ^ t := by omega
theorem pair_of {l : List D} (h : l.length = 2) : ∃ a b, l = [a, b] := by
  match l, h with
  | [a, b], _ => exact ⟨a, b, rfl⟩
theorem r_is_saying_of {k : Nat} (hk : 3 ≤ k) (m : Mu) {d : D} (h : top2 d = true) : callF txt.fs txt.consts 1000 k i_is_saying_of [d] m = .ok (.bl (tabLike 2 4 (inW (-9) 9) d)) m := by
  rw [cl_u (by omega) h_is_saying_of rfl]
  cases ht : isT d with
  | false => simp [f_is_saying_of, startS, isa_tup (top2_top h), ht, tabLike_top ht]
  | true =>
    obtain ⟨l, rfl⟩ := tup_of ht
    by_cases hl : l.length = 2
    · obtain ⟨a, b, rfl⟩ := pair_of hl
      obtain ⟨ha, hb, hx⟩ := top2_pair h
      have w := r_is_within (k := k - 1) (by omega) m ha 2 4
      rw [tabLike_tup]
      cases hw : inW 2 4 a with
      | false =>
        rw [hw] at w
        simp [f_is_saying_of, startS, isa_tup (top2_top h), ht, k_LEAST_THINGS, k_MOST_THINGS_SAID, w]
      | true =>
        rw [hw] at w
        obtain ⟨i, rfl, h1, h2⟩ := inW_int hw
        have ls := r_is_list (k := k - 1) (by omega) m hb
        cases hs : isS b with
        | false =>
          rw [hs] at ls
          simp [f_is_saying_of, startS, isa_tup (top2_top h), ht, k_LEAST_THINGS, k_MOST_THINGS_SAID, w, ls]
        | true =>
          rw [hs] at ls
          obtain ⟨P, hP, hP2, pw⟩ := pow6' (t := i) (by omega) (by omega) m
          show _ = Res.ok (D.bl (true && (true && decide ((kids b).length = 2 ^ i.toNat) && _))) m
          rw [← hP]
          by_cases hn : (kids b).length = P
          · simp [f_is_saying_of, startS, isa_tup (top2_top h), ht, k_LEAST_THINGS, k_MOST_THINGS_SAID, w, ls, len_kids hs, k_POWERS, hn, pw]
            rw [x_is_saying_of_0, comp_map (kids b) id (fun x => .bl (inW (-9) 9 x)) (by simp; rfl) (by rw [seqI_kids hs, List.map_id]) (fun x hx' => ⟨_, rfl, by simp [k_MOST_NUMBER]; exact r_is_within (k := k - 1) (by omega) m (hx x hx') (-9) 9⟩) (by omega)]
            simp [all_bl]
          · have hn' : ¬ (((kids b).length : Int) = (P : Int)) := by omega
            simp [f_is_saying_of, startS, isa_tup (top2_top h), ht, k_LEAST_THINGS, k_MOST_THINGS_SAID, w, ls, len_kids hs, k_POWERS, hn, pw, hn']
    · rw [tabLike_non hl]
      simp [f_is_saying_of, startS, isa_tup (top2_top h), ht, two_i, hl]
theorem r_is_table_of {k : Nat} (hk : 3 ≤ k) (m : Mu) {d : D} (h : top2 d = true) : callF txt.fs txt.consts 1000 k i_is_table_of [d] m = .ok (.bl (tabLike 1 5 (inW (-99) 99) d)) m := by
  rw [cl_u (by omega) h_is_table_of rfl]
  cases ht : isT d with
  | false => simp [f_is_table_of, startS, isa_tup (top2_top h), ht, tabLike_top ht]
  | true =>
    obtain ⟨l, rfl⟩ := tup_of ht
    by_cases hl : l.length = 2
    · obtain ⟨a, b, rfl⟩ := pair_of hl
      obtain ⟨ha, hb, hx⟩ := top2_pair h
      have w := r_is_within (k := k - 1) (by omega) m ha 1 5
      rw [tabLike_tup]
      cases hw : inW 1 5 a with
      | false =>
        rw [hw] at w
        simp [f_is_table_of, startS, isa_tup (top2_top h), ht, k_MOST_THINGS, w]
      | true =>
        rw [hw] at w
        obtain ⟨i, rfl, h1, h2⟩ := inW_int hw
        have ls := r_is_list (k := k - 1) (by omega) m hb
        cases hs : isS b with
        | false =>
          rw [hs] at ls
          simp [f_is_table_of, startS, isa_tup (top2_top h), ht, k_MOST_THINGS, w, ls]
        | true =>
          rw [hs] at ls
          obtain ⟨P, hP, hP2, pw⟩ := pow6' (t := i) (by omega) (by omega) m
          show _ = Res.ok (D.bl (true && (true && decide ((kids b).length = 2 ^ i.toNat) && _))) m
          rw [← hP]
          by_cases hn : (kids b).length = P
          · simp [f_is_table_of, startS, isa_tup (top2_top h), ht, k_MOST_THINGS, w, ls, len_kids hs, k_POWERS, hn, pw]
            rw [x_is_table_of_0, comp_map (kids b) id (fun x => .bl (inW (-99) 99 x)) (by simp; rfl) (by rw [seqI_kids hs, List.map_id]) (fun x hx' => ⟨_, rfl, by simp [k_MOST_WORTH]; exact r_is_within (k := k - 1) (by omega) m (hx x hx') (-99) 99⟩) (by omega)]
            simp [all_bl]
          · have hn' : ¬ (((kids b).length : Int) = (P : Int)) := by omega
            simp [f_is_table_of, startS, isa_tup (top2_top h), ht, k_MOST_THINGS, w, ls, len_kids hs, k_POWERS, hn, pw, hn']
    · rw [tabLike_non hl]
      simp [f_is_table_of, startS, isa_tup (top2_top h), ht, two_i, hl]
theorem r_is_wide_of {k : Nat} (hk : 3 ≤ k) (m : Mu) {d : D} (h : top2 d = true) : callF txt.fs txt.consts 1000 k i_is_wide_of [d] m = .ok (.bl (tabLike 1 5 isI d)) m := by
  rw [cl_u (by omega) h_is_wide_of rfl]
  cases ht : isT d with
  | false => simp [f_is_wide_of, startS, isa_tup (top2_top h), ht, tabLike_top ht]
  | true =>
    obtain ⟨l, rfl⟩ := tup_of ht
    by_cases hl : l.length = 2
    · obtain ⟨a, b, rfl⟩ := pair_of hl
      obtain ⟨ha, hb, hx⟩ := top2_pair h
      have w := r_is_within (k := k - 1) (by omega) m ha 1 5
      rw [tabLike_tup]
      cases hw : inW 1 5 a with
      | false =>
        rw [hw] at w
        simp [f_is_wide_of, startS, isa_tup (top2_top h), ht, k_MOST_THINGS_WIDE, w]
      | true =>
        rw [hw] at w
        obtain ⟨i, rfl, h1, h2⟩ := inW_int hw
        have ls := r_is_list (k := k - 1) (by omega) m hb
        cases hs : isS b with
        | false =>
          rw [hs] at ls
          simp [f_is_wide_of, startS, isa_tup (top2_top h), ht, k_MOST_THINGS_WIDE, w, ls]
        | true =>
          rw [hs] at ls
          obtain ⟨P, hP, hP2, pw⟩ := pow6' (t := i) (by omega) (by omega) m
          show _ = Res.ok (D.bl (true && (true && decide ((kids b).length = 2 ^ i.toNat) && _))) m
          rw [← hP]
          by_cases hn : (kids b).length = P
          · simp [f_is_wide_of, startS, isa_tup (top2_top h), ht, k_MOST_THINGS_WIDE, w, ls, len_kids hs, k_POWERS, hn, pw]
            rw [x_is_wide_of_0, comp_map (kids b) id (fun x => .bl (isI x)) (by simp; rfl) (by rw [seqI_kids hs, List.map_id]) (fun x hx' => ⟨_, rfl, by simp; exact r_is_integer (k := k - 1) (by omega) m (hx x hx')⟩) (by omega)]
            simp [all_bl]
          · have hn' : ¬ (((kids b).length : Int) = (P : Int)) := by omega
            simp [f_is_wide_of, startS, isa_tup (top2_top h), ht, k_MOST_THINGS_WIDE, w, ls, len_kids hs, k_POWERS, hn, pw, hn']
    · rw [tabLike_non hl]
      simp [f_is_wide_of, startS, isa_tup (top2_top h), ht, two_i, hl]
end L89

set_option linter.all false
set_option maxRecDepth 100000
set_option maxHeartbeats 4000000
namespace L89
open PySem Mi L2
/-! A6: the law's own words: lots, numbers, worths, what is less. -/
theorem l_lots {k : Nat} (hk : 1 ≤ k) (m : Mu) {n : Nat} (hn : n ≤ 5) : callF txt.fs txt.consts 1000 k i__law_lots [.int n] m = .ok (.lst ((lotsI n).map lotD)) m := by
  obtain ⟨k, rfl⟩ : ∃ j, k = j + 1 := ⟨k - 1, by omega⟩
  have : n = 0 ∨ n = 1 ∨ n = 2 ∨ n = 3 ∨ n = 4 ∨ n = 5 := by omega
  rcases this with rfl | rfl | rfl | rfl | rfl | rfl <;> rfl
theorem numI_snoc (ls : List Int) (t : Int) : numI (ls ++ [t]) = numI ls + 2 ^ t.toNat := by rw [numI_app, numI_one]
theorem l_number {k : Nat} (hk : 1 ≤ k) (m : Mu) {ls : List Int} (h : Th5 ls) : callF txt.fs txt.consts 1000 k i__law_number [lotD ls] m = .ok (.int (numI ls : Nat)) m := by
  rw [cl_u hk h__law_number rfl]
  have q := for_run (f := forB ⟨txt.consts, callF txt.fs txt.consts 1000 (k - 1)⟩ 1000 (.nm 2) b__law_number_1) (e := D.int)
    (fun done r m' => m' = m ∧ ∃ a2 a3 a4, r = [.val (lotD ls), .val (.int (numI done : Nat)), a2, a3, a4]) ls [] [.val (lotD ls), .val (.int 0), .un, .un, .un] m ⟨rfl, _, _, _, rfl⟩ (by
    rintro d a rest r m' hd ⟨rfl, a2, a3, a4, rfl⟩
    have ha := h a (by rw [← List.nil_append ls, hd]; simp)
    rw [numI_snoc]
    obtain ⟨h1, h2⟩ := ha
    have : a = 0 ∨ a = 1 ∨ a = 2 ∨ a = 3 ∨ a = 4 := by omega
    rcases this with rfl | rfl | rfl | rfl | rfl <;> exact ⟨_, _, rfl, rfl, _, _, _, rfl⟩)
  obtain ⟨r', m', e, rfl, a2, a3, a4, rfl⟩ := q
  simp [f__law_number, startS, e]
theorem l_worth {k : Nat} (hk : 2 ≤ k) (m : Mu) {n : Nat} {b : Bool} {ws ls : List Int} (h : Th5 ls) (hi : numI ls < ws.length) : callF txt.fs txt.consts 1000 k i__law_worth [tabD n b ws, lotD ls] m = .ok (.int (W ws (numI ls))) m := by
  rw [cl_u (by omega) h__law_worth rfl]
  have e := idx_seq (b := b) m (getW hi)
  simp [f__law_worth, startS, tabD, l_number (k := k - 1) (by omega) m h, e]
theorem l_with {k : Nat} (hk : 1 ≤ k) (m : Mu) {ls : List Int} (hl : ls.length ≤ 999) (t : Int) : callF txt.fs txt.consts 1000 k i__law_with [lotD ls, .int t] m = .ok (lotD (isort (ls ++ [t]))) m := by
  rw [cl_u hk h__law_with rfl]
  have e := add_lot (ls := ls) (ks := [t]) (by simp; omega)
  simp only [lot1] at e
  simp [f__law_with, startS, e, sorted_lot]
  rfl
theorem with_num (ls : List Int) (t : Int) : numI (isort (ls ++ [t])) = numI ls + 2 ^ t.toNat := by rw [numI_perm (isort_perm _), numI_app, numI_one]
theorem with_len (ls : List Int) (t : Int) : (isort (ls ++ [t])).length = ls.length + 1 := by rw [(isort_perm _).length_eq]; simp
def anyLess (n : Nat) (ws : List Int) : Bool := (lotsI n).any fun ls => (restI n ls).zipIdx.any fun q => ((restI n ls).take q.2).any fun u => brk ws (numI ls) q.1 u
theorem brk_sym (ws : List Int) (s : Nat) (t u : Int) : brk ws s t u = brk ws s u t := by
  unfold brk Gn
  have e : s + 2 ^ u.toNat + 2 ^ t.toNat = s + 2 ^ t.toNat + 2 ^ u.toNat := by omega
  rw [e, decide_eq_decide]
  omega
theorem drop_any (l : List Int) (p : Int → Int → Bool) : (l.zipIdx.any fun q => (l.drop (q.2 + 1)).any fun u => p q.1 u) = true ↔ ∃ i j : Nat, ∃ a b, i < j ∧ l[i]? = some a ∧ l[j]? = some b ∧ p a b = true := by
  rw [List.any_eq_true]
  constructor
  · rintro ⟨q, hq, h⟩
    obtain ⟨u, hu, hp⟩ := List.any_eq_true.mp h
    obtain ⟨j, hj, e⟩ := List.getElem_of_mem hu
    refine ⟨q.2, q.2 + 1 + j, q.1, u, by omega, (zip_mem hq).2, ?_, hp⟩
    rw [List.getElem_drop] at e
    rw [← e]
    exact List.getElem?_eq_getElem _
  · rintro ⟨i, j, a, b, hij, h1, h2, hp⟩
    refine ⟨(a, i), List.mk_mem_zipIdx_iff_getElem?.mpr h1, List.any_eq_true.mpr ⟨b, ?_, hp⟩⟩
    refine List.mem_of_getElem? (i := j - (i + 1)) ?_
    rw [List.getElem?_drop]
    have e : i + 1 + (j - (i + 1)) = j := by omega
    exact (congrArg (fun x => l[x]?) e).trans h2
theorem take_any (l : List Int) (p : Int → Int → Bool) : (l.zipIdx.any fun q => (l.take q.2).any fun u => p q.1 u) = true ↔ ∃ i j : Nat, ∃ a b, i < j ∧ l[i]? = some a ∧ l[j]? = some b ∧ p b a = true := by
  rw [List.any_eq_true]
  constructor
  · rintro ⟨q, hq, h⟩
    obtain ⟨u, hu, hp⟩ := List.any_eq_true.mp h
    obtain ⟨j, hj, e⟩ := List.getElem_of_mem hu
    rw [List.length_take] at hj
    refine ⟨j, q.2, u, q.1, by omega, ?_, (zip_mem hq).2, hp⟩
    rw [List.getElem_take] at e
    rw [← e]
    exact List.getElem?_eq_getElem _
  · rintro ⟨i, j, a, b, hij, h1, h2, hp⟩
    refine ⟨(b, j), List.mk_mem_zipIdx_iff_getElem?.mpr h2, List.any_eq_true.mpr ⟨a, ?_, hp⟩⟩
    refine List.mem_of_getElem? (i := i) ?_
    rw [List.getElem?_take, if_pos hij]
    exact h1
theorem any_same {α : Type} (l : List α) {p q : α → Bool} (h : ∀ a ∈ l, p a = q a) : l.any p = l.any q := by
  induction l with
  | nil => rfl
  | cons a r ih => rw [List.any_cons, List.any_cons, h a List.mem_cons_self, ih fun b hb => h b (List.mem_cons_of_mem _ hb)]
theorem less_break (n : Nat) (ws : List Int) : anyLess n ws = anyBrk n ws := by
  refine any_same _ fun ls _ => ?_
  rw [Bool.eq_iff_iff, drop_any, take_any]
  constructor <;> rintro ⟨i, j, a, b, h, h1, h2, h3⟩ <;> exact ⟨i, j, a, b, h, h1, h2, by rw [brk_sym]; exact h3⟩
theorem take_ne {ls : List Int} (nd : ls.Nodup) {q : Int × Nat} (h : q ∈ ls.zipIdx) {u : Int} (hu : u ∈ ls.take q.2) : u ∈ ls ∧ q.1 ≠ u := by
  refine ⟨List.mem_of_mem_take hu, fun z => ?_⟩
  obtain ⟨j, hj, e⟩ := List.getElem_of_mem hu
  rw [List.getElem_take] at e
  rw [List.length_take] at hj
  obtain ⟨h1, h2⟩ := List.getElem?_eq_some_iff.mp (zip_mem h).2
  rw [← z, ← h2] at e
  have := (List.getElem_inj nd).mp e
  omega
theorem take_map (l : List Int) (j : Nat) : (l.map D.int).take j = (l.take j).map D.int := List.map_take.symm
theorem l_is_less {k : Nat} (hk : 4 ≤ k) (m : Mu) {n : Nat} {b : Bool} {ws : List Int} (hn : n ≤ 5) (hw : ws.length = 2 ^ n) :
    callF txt.fs txt.consts 1000 k i__law_is_less [tabD n b ws] m = .ok (.bl (!anyLess n ws)) m := by
  rw [cl_u (by omega) h__law_is_less rfl]
  have ra := l_lots (k := k - 1) (by omega) m hn
  have q := for_find (f := forB ⟨txt.consts, callF txt.fs txt.consts 1000 (k - 1)⟩ 1000 (.nm 1) b__law_is_less_2) lotD (m := m)
    (fun r => ∃ a1 a2 a3 a4 a5 a6, r = [.val (tabD n b ws), a1, a2, a3, a4, a5, a6]) (fun ls => (restI n ls).zipIdx.any fun q => ((restI n ls).take q.2).any fun u => brk ws (numI ls) q.1 u) (fun d => d = .bl false)
    (lotsI n) [.val (tabD n b ws), .un, .un, .un, .un, .un, .un] ⟨_, _, _, _, _, _, rfl⟩ (by
    rintro ls hls r ⟨a1, a2, a3, a4, a5, a6, rfl⟩
    have ok := lots_ok hn ls hls
    have hl := ok.len
    have rr : ∀ a2 a3 a4 a5 a6, ev ⟨txt.consts, callF txt.fs txt.consts 1000 (k - 1)⟩ x__law_is_less_0 [.val (tabD n b ws), .val (lotD ls), a2, a3, a4, a5, a6] m = .ok (.lst ((restI n ls).map D.int)) m := fun a2 a3 a4 a5 a6 => by
      rw [x__law_is_less_0, comp_filter ((List.range n).map fun (t : Nat) => (t : Int)) D.int D.int (fun t => !ls.contains t) (by simp [tabD]; rfl) (by rw [List.map_map]; exact items_rng (by omega)) (fun t _ => ⟨_, rfl, by simp, fun _ => by simp⟩) (by simp; omega)]
      rfl
    have q2 := for_find (f := forB ⟨txt.consts, callF txt.fs txt.consts 1000 (k - 1)⟩ 1000 (.tp [3, 4]) b__law_is_less_1) (fun q : Int × Nat => D.tup [.int (q.2 : Nat), .int q.1]) (m := m)
      (fun r => ∃ a3 a4 a5 a6, r = [.val (tabD n b ws), .val (lotD ls), .val (.lst ((restI n ls).map D.int)), a3, a4, a5, a6]) (fun q => ((restI n ls).take q.2).any fun u => brk ws (numI ls) q.1 u) (fun d => d = .bl false)
      (restI n ls).zipIdx [.val (tabD n b ws), .val (lotD ls), .val (.lst ((restI n ls).map D.int)), a3, a4, a5, a6] ⟨_, _, _, _, rfl⟩ (by
      rintro q hq r ⟨a3, a4, a5, a6, rfl⟩
      have q3 := for_find (f := forB ⟨txt.consts, callF txt.fs txt.consts 1000 (k - 1)⟩ 1000 (.nm 5) b__law_is_less_0) D.int (m := m)
        (fun r => ∃ a5 a6, r = [.val (tabD n b ws), .val (lotD ls), .val (.lst ((restI n ls).map D.int)), .val (.int (q.2 : Nat)), .val (.int q.1), a5, a6]) (fun u => brk ws (numI ls) q.1 u) (fun d => d = .bl false)
        ((restI n ls).take q.2) [.val (tabD n b ws), .val (lotD ls), .val (.lst ((restI n ls).map D.int)), .val (.int (q.2 : Nat)), .val (.int q.1), a5, a6] ⟨_, _, rfl⟩ (by
        rintro u hu r ⟨a5, a6, rfl⟩
        obtain ⟨hu1, hu2⟩ := take_ne ok.nd hq hu
        have hq1 := (zip_mem hq).1
        have e1 := ok.one q.1 hq1
        have e2 := ok.one u hu1
        have e3 := ok.two q.1 hq1 u hu1 hu2
        have w0 := l_worth (k := k - 1) (by omega) m (n := n) (b := b) (ws := ws) ok.th (by rw [hw]; exact ok.own)
        have w1 := l_worth (k := k - 1) (by omega) m (n := n) (b := b) (ws := ws) (ok.th.app (.one e1.1)).sort (by rw [hw, with_num]; exact e1.2)
        have w2 := l_worth (k := k - 1) (by omega) m (n := n) (b := b) (ws := ws) (ok.th.app (.one e2.1)).sort (by rw [hw, with_num]; exact e2.2)
        have w3 := l_worth (k := k - 1) (by omega) m (n := n) (b := b) (ws := ws) ((ok.th.app (.one e1.1)).sort.app (.one e2.1)).sort (by rw [hw, with_num, with_num]; omega)
        rw [with_num] at w1 w2
        rw [with_num, with_num] at w3
        have v1 := l_with (k := k - 1) (by omega) m (ls := ls) (by omega) q.1
        have v2 := l_with (k := k - 1) (by omega) m (ls := ls) (by omega) u
        have v3 := l_with (k := k - 1) (by omega) m (ls := isort (ls ++ [q.1])) (by rw [with_len]; omega) u
        have key : brk ws (numI ls) q.1 u = decide (W ws (numI ls + 2 ^ q.1.toNat) + W ws (numI ls + 2 ^ u.toNat) < W ws (numI ls) + W ws (numI ls + 2 ^ q.1.toNat + 2 ^ u.toNat)) := by
          unfold brk Gn
          have e : numI ls + 2 ^ u.toNat + 2 ^ q.1.toNat = numI ls + 2 ^ q.1.toNat + 2 ^ u.toNat := by omega
          rw [e, decide_eq_decide]
          omega
        rw [key]
        by_cases hb : W ws (numI ls + 2 ^ q.1.toNat) + W ws (numI ls + 2 ^ u.toNat) < W ws (numI ls) + W ws (numI ls + 2 ^ q.1.toNat + 2 ^ u.toNat)
        · simp [forB, b__law_is_less_0, w0, w1, w2, w3, v1, v2, v3, hb]
          exact ⟨rfl, rfl, rfl⟩
        · simp [forB, b__law_is_less_0, w0, w1, w2, w3, v1, v2, v3, hb]
          exact ⟨rfl, ⟨_, _, rfl⟩, rfl⟩)
      simp [forB, b__law_is_less_1, bindT, setAll]
      rw [take_map]
      exact q3.imp (fun r ⟨a5, a6, h⟩ => ⟨_, _, _, _, h⟩) fun _ h => h)
    simp [forB, b__law_is_less_2]
    rw [rr]
    simp [items_enL]
    exact q2.imp (fun r ⟨a3, a4, a5, a6, h⟩ => ⟨_, _, _, _, _, _, h⟩) fun _ h => h)
  simp [f__law_is_less, startS, tabD, ra]
  obtain ⟨q1, q2⟩ := q.then fun r m => .rt (.bl true) m
  cases h : anyLess n ws with
  | false =>
    obtain ⟨r, _, e⟩ := q1 h
    rw [tabD] at e
    rw [e]
    rfl
  | true =>
    obtain ⟨d, hd, e⟩ := q2 h
    rw [tabD] at e
    rw [e, hd]
    rfl
end L89

set_option linter.all false
set_option maxRecDepth 100000
set_option maxHeartbeats 4000000
namespace L89
open PySem Mi L2
/-! A7: what is good, what is a saying: by the program and by the law. -/
def intOf : D → Int
  | .int i => i | _ => 0
def nOf : D → Nat
  | .tup [.int a, _] => a.toNat | _ => 0
def wsOf : D → List Int
  | .tup [_, b] => (kids b).map intOf | _ => []
theorem ints_inv : ∀ l : List D, (∀ x ∈ l, isI x = true) → l = (l.map intOf).map D.int
  | [], _ => rfl
  | a :: r, h => by
    have h1 := h a List.mem_cons_self
    have h2 := ints_inv r fun x hx => h x (List.mem_cons_of_mem _ hx)
    cases a <;> first | (cases h1; done) | skip
    rw [List.map_cons, List.map_cons, ← h2]
    rfl
theorem tab_inv {lo hi : Int} (hlo : 0 ≤ lo) {p : D → Bool} {d : D} (h : tabLike lo hi p d = true) (hp : ∀ x, p x = true → isI x = true) :
    ∃ n b ws, d = tabD n b ws ∧ ws.length = 2 ^ n ∧ lo ≤ (n : Int) ∧ (n : Int) ≤ hi ∧ ∀ w ∈ ws, p (.int w) = true := by
  cases ht : isT d with
  | false =>
    rw [tabLike_top ht] at h
    cases h
  | true =>
    obtain ⟨l, rfl⟩ := tup_of ht
    by_cases hl : l.length = 2
    · obtain ⟨a, b, rfl⟩ := pair_of hl
      rw [tabLike_tup] at h
      simp only [Bool.and_eq_true] at h
      obtain ⟨h1, ⟨h2, h3⟩, h4⟩ := h
      obtain ⟨i, rfl, i1, i2⟩ := inW_int h1
      have h3 := of_decide_eq_true h3
      have h3 : (kids b).length = 2 ^ i.toNat := h3
      have hk := ints_inv (kids b) fun x hx => hp x (List.all_eq_true.mp h4 x hx)
      have hi : ((i.toNat : Nat) : Int) = i := Int.toNat_of_nonneg (by omega)
      refine ⟨i.toNat, (match b with | .lst _ => true | _ => false), (kids b).map intOf, ?_, by rw [List.length_map, h3], by omega, by omega, fun w hw => ?_⟩
      · unfold tabD
        rw [hi, ← hk]
        cases b <;> first | rfl | cases h2
      · obtain ⟨x, hx, rfl⟩ := List.mem_map.mp hw
        have q := List.all_eq_true.mp h4 x hx
        have q2 := hp x q
        cases x <;> first | exact q | cases q2
    · rw [tabLike_non hl] at h
      cases h
theorem kids_seq (b : Bool) (xs : List D) : kids (seqD b xs) = xs := by cases b <;> rfl
theorem isS_seq (b : Bool) (xs : List D) : isS (seqD b xs) = true := by cases b <;> rfl
theorem nOf_tab (n : Nat) (b : Bool) (ws : List Int) : nOf (tabD n b ws) = n := by simp [nOf, tabD]
theorem intOf_map (ws : List Int) : (ws.map D.int).map intOf = ws := by
  rw [List.map_map]
  exact List.map_id _
theorem wsOf_tab (n : Nat) (b : Bool) (ws : List Int) : wsOf (tabD n b ws) = ws := by simp only [wsOf, tabD, kids_seq, intOf_map]
theorem tab_is {lo hi : Int} {p : D → Bool} {n : Nat} {b : Bool} {ws : List Int} (h1 : lo ≤ n) (h2 : (n : Int) ≤ hi) (h3 : ws.length = 2 ^ n) (h4 : ∀ w ∈ ws, p (.int w) = true) : tabLike lo hi p (tabD n b ws) = true := by
  unfold tabD
  rw [tabLike_tup]
  simp only [kids_seq, isS_seq, Bool.and_eq_true]
  refine ⟨by simp [inW, h1, h2], ⟨trivial, decide_eq_true (by simp [h3])⟩, List.all_eq_true.mpr fun x hx => ?_⟩
  obtain ⟨w, hw, rfl⟩ := List.mem_map.mp hx
  exact h4 w hw
def goodP (d : D) : Bool := tabLike 1 5 isI d && (decide (W (wsOf d) 0 = 0) && (!anyFall (nOf d) (wsOf d) && !anyBrk (nOf d) (wsOf d)))
theorem two_ne (n : Nat) : 0 < 2 ^ n := Nat.pow_pos (by decide)
theorem idx_ws {b : Bool} {ws : List Int} (h : 0 < ws.length) (m : Mu) : idxD m (seqD b (ws.map D.int)) (.int 0) = some (.int (W ws 0)) := idx_seq (i := 0) m (getW h)
theorem isNon_all {x : Res D} {d : D} {m : Mu} {b : Bool} (e : x = .ok d m) (h : isNon d = b) : ∃ d, x = .ok d m ∧ isNon d = b := ⟨d, e, h⟩
theorem r_is_good_of {k : Nat} (hk : 6 ≤ k) (m : Mu) {d : D} (h : top2 d = true) : callF txt.fs txt.consts 1000 k i_is_good_of [d] m = .ok (.bl (goodP d)) m := by
  rw [cl_u (by omega) h_is_good_of rfl]
  have w := r_is_wide_of (k := k - 1) (by omega) m h
  unfold goodP
  cases hw : tabLike 1 5 isI d with
  | false =>
    rw [hw] at w
    simp [f_is_good_of, startS, w]
  | true =>
    rw [hw] at w
    obtain ⟨n, b, ws, rfl, hl, h1, h2, _⟩ := tab_inv (by decide) hw fun _ h => h
    have p0 := two_ne n
    have i0 := idx_ws (b := b) (ws := ws) (by omega) m
    rw [nOf_tab, wsOf_tab]
    obtain ⟨d1, e1, q1⟩ := r_first_fall (k := k - 1) (by omega) m (n := n) (b := b) (ws := ws) (by omega) hl
    obtain ⟨d2, e2, q2⟩ := r_first_break (k := k - 1) (by omega) m (n := n) (b := b) (ws := ws) (by omega) hl
    simp only [tabD] at w e1 e2
    by_cases z : W ws 0 = 0
    · simp [f_is_good_of, startS, tabD, w, i0, z, e1, q1, e2, q2]
      cases anyFall n ws <;> simp
    · simp [f_is_good_of, startS, tabD, w, i0, z]
theorem isI_of {d : D} (h : isI d = true) : ∃ i, d = .int i := by cases d <;> first | exact ⟨_, rfl⟩ | cases h
theorem isI_and (d : D) (h : top d = true) : (match (match d with | .int _ => true | .bl _ => true | _ => false : Bool) with | true => !(match d with | .bl _ => true | _ => false : Bool) | false => false) = isI d := by cases d <;> rfl
theorem lots_len (n : Nat) : (lotsI n).length = 2 ^ n := by simp [lotsI]
theorem isa_ii (i : Int) : isaD .int (.int i) = some true := rfl
theorem isa_bi (i : Int) : isaD .bool (.int i) = some false := rfl
theorem isa_tt (l : List D) : isaD .tuple (.tup l) = some true := rfl
theorem lis_of (b : Bool) (xs : List D) : b1op .list (seqD b xs) = some (.lst xs) := by cases b <;> rfl
theorem good_loop {k : Nat} (hk : 5 ≤ k) (m : Mu) {n : Nat} {ws : List Int} {b : D} (hn : n ≤ 5) (hw : ws.length = 2 ^ n) (a2 a3 a4 a5 : Slot) :
    Fnd (anyFall n ws) (fun r => ∃ a2 a3 a4 a5, r = [.val (.tup [.int n, b]), .val (tabD n true ws), a2, a3, a4, a5]) (fun d => d = .bl false) m
      (forR (forB ⟨txt.consts, callF txt.fs txt.consts 1000 k⟩ 1000 (.nm 2) b__law_is_good_0) ((lotsI n).map lotD) [.val (.tup [.int n, b]), .val (tabD n true ws), a2, a3, a4, a5] m) := by
  refine for_find lotD _ (fun ls => (restI n ls).any fun t => decide (Gn ws (numI ls) t < 0)) _ (lotsI n) _ ⟨_, _, _, _, rfl⟩ ?_
  rintro ls hls r ⟨a2, a3, a4, a5, rfl⟩
  have ok := lots_ok hn ls hls
  have hl := ok.len
  have rr : ev ⟨txt.consts, callF txt.fs txt.consts 1000 k⟩ x__law_is_good_1 [.val (.tup [.int n, b]), .val (tabD n true ws), .val (lotD ls), a3, a4, a5] m = .ok (.lst ((restI n ls).map D.int)) m := by
    rw [x__law_is_good_1, comp_filter ((List.range n).map fun (t : Nat) => (t : Int)) D.int D.int (fun t => !ls.contains t) (by simp; rfl) (by rw [List.map_map]; exact items_rng (by omega)) (fun t _ => ⟨_, rfl, by simp, fun _ => by simp⟩) (by simp; omega)]
    rfl
  have hr : (restI n ls).length ≤ 5 := by
    unfold restI
    exact Nat.le_trans (List.length_filter_le _ _) (by simp; omega)
  have w0 := l_worth (k := k) (by omega) m (n := n) (b := true) (ws := ws) ok.th (by rw [hw]; exact ok.own)
  have cm : ev ⟨txt.consts, callF txt.fs txt.consts 1000 k⟩ x__law_is_good_2 [.val (.tup [.int n, b]), .val (tabD n true ws), .val (lotD ls), .val (.lst ((restI n ls).map D.int)), a4, a5] m = .ok (.lst (((restI n ls).map fun t => decide (Gn ws (numI ls) t < 0)).map D.bl)) m := by
    rw [x__law_is_good_2, comp_map (restI n ls) D.int (fun t => .bl (decide (Gn ws (numI ls) t < 0))) (by simp; rfl) rfl (fun t ht => ⟨_, rfl, by
      have e1 := ok.one t ht
      have w1 := l_worth (k := k) (by omega) m (n := n) (b := true) (ws := ws) (ok.th.app (.one e1.1)).sort (by rw [hw, with_num]; exact e1.2)
      have v1 := l_with (k := k) (by omega) m (ls := ls) (by omega) t
      rw [with_num] at w1
      have e2 : decide (Gn ws (numI ls) t < 0) = decide (W ws (numI ls + 2 ^ t.toNat) < W ws (numI ls)) := by
        unfold Gn
        rw [decide_eq_decide]
        omega
      rw [e2]
      simp [w0, v1, w1]⟩) (by omega), List.map_map]
    rfl
  simp [forB, b__law_is_good_0]
  rw [rr]
  simp
  rw [cm]
  simp only [bind_ok', any_bls, of_some, asB_ok, st_ok', List.any_map]
  have e : ((restI n ls).any (id ∘ fun t => decide (Gn ws (numI ls) t < 0))) = (restI n ls).any fun t => decide (Gn ws (numI ls) t < 0) := rfl
  rw [e]
  cases hb : (restI n ls).any fun t => decide (Gn ws (numI ls) t < 0) with
  | false => exact ⟨rfl, ⟨_, _, _, _, rfl⟩, rfl⟩
  | true => exact ⟨rfl, rfl, rfl⟩
theorem l_is_good {k : Nat} (hk : 6 ≤ k) (m : Mu) {d : D} (h : top2 d = true) : callF txt.fs txt.consts 1000 k i__law_is_good [d] m = .ok (.bl (goodP d)) m := by
  rw [cl_u (by omega) h__law_is_good rfl]
  unfold goodP
  cases ht : isT d with
  | false => simp [f__law_is_good, t__law_is_good_0, startS, isa_tup (top2_top h), ht, tabLike_top ht]
  | true =>
    obtain ⟨l, rfl⟩ := tup_of ht
    by_cases hl : l.length = 2
    · obtain ⟨a, b, rfl⟩ := pair_of hl
      obtain ⟨ha, hb, hx⟩ := top2_pair h
      rw [tabLike_tup]
      cases hi : isI a with
      | false =>
        have z : inW 1 5 a = false := by cases a <;> first | rfl | cases hi
        rw [z]
        cases a <;> first | (cases hi; done) | (cases ha; done) | (simp [f__law_is_good, t__law_is_good_0, startS, isaD]; done)
      | true =>
        obtain ⟨i, rfl⟩ := isI_of hi
        simp only [inW]
        by_cases h1 : 1 ≤ i
        · by_cases h2 : i ≤ 5
          · obtain ⟨n, rfl⟩ : ∃ n : Nat, i = n := ⟨i.toNat, by omega⟩
            have ll := l_lots (k := k - 1) (by omega) m (n := n) (by omega)
            show _ = Res.ok (D.bl (decide (1 ≤ (n : Int)) && decide ((n : Int) ≤ 5) && (isS b && decide ((kids b).length = 2 ^ n) && (kids b).all isI) && _)) m
            cases hs : isS b with
            | false => simp [f__law_is_good, t__law_is_good_0, t__law_is_good_1, startS, isa_tt, isa_ii, isa_bi, isa_seq hb, hs, h1, h2]
            | true =>
              by_cases hn : (kids b).length = 2 ^ n
              · have hn' : (((kids b).length : Int) = ((lotsI n).length : Int)) := by rw [lots_len]; omega
                have := pow_big (t := (n : Int)) (by omega) (by omega)
                have cm : ∀ a1 a2 a3 a4 a5, ev ⟨txt.consts, callF txt.fs txt.consts 1000 (k - 1)⟩ x__law_is_good_0 [.val (.tup [.int n, b]), a1, a2, a3, a4, a5] m = .ok (.lst ((kids b).map fun x => .bl (isI x))) m := fun a1 a2 a3 a4 a5 => by
                  rw [x__law_is_good_0, comp_map (kids b) id (fun x => .bl (isI x)) (by simp; rfl) (by rw [seqI_kids hs, List.map_id]) (fun x hx' => ⟨_, rfl, by
                    have := hx x hx'
                    cases x <;> first | (cases this; done) | (simp [isaD, isI]; done)⟩) (by rw [Int.toNat_natCast] at this; omega)]
                cases hq : (kids b).all isI with
                | false => simp [f__law_is_good, t__law_is_good_0, t__law_is_good_1, t__law_is_good_2, startS, isa_tt, isa_ii, isa_bi, isa_seq hb, hs, h1, h2, ll, len_kids hs, hn, hn', cm, all_bl, hq]
                | true =>
                  have hw : tabLike 1 5 isI (.tup [.int (n : Int), b]) = true := by
                    rw [tabLike_tup, hs, hq]
                    simp [inW, h1, h2, hn]
                  obtain ⟨n', b', ws, e, hl, h1', h2', _⟩ := tab_inv (by decide) hw fun _ h => h
                  simp only [tabD, D.tup.injEq, List.cons.injEq, D.int.injEq, and_true] at e
                  obtain ⟨e1, rfl⟩ := e
                  obtain rfl : n = n' := by omega
                  have g1 := nOf_tab n b' ws
                  have g2 := wsOf_tab n b' ws
                  unfold tabD at g1 g2
                  rw [g1, g2]
                  have p0 := two_ne n
                  have i0 := idx_ws (b := b') (ws := ws) (by omega) m
                  by_cases z : W ws 0 = 0
                  · have hz : ((2 : Int) ^ n) = ((lotsI n).length : Int) := by rw [lots_len]; simp
                    simp [hz, f__law_is_good, t__law_is_good_0, t__law_is_good_1, t__law_is_good_2, t__law_is_good_3, t__law_is_good_4, startS, isa_tt, isa_ii, isa_bi, isa_seq hb, hs, h1, h2, ll, len_kids hs, hn, hn', cm, all_bl, hq, i0, z, lis_of]
                    obtain ⟨q1, q2⟩ := (good_loop (k := k - 1) (by omega) m (n := n) (b := seqD b' (ws.map D.int)) (by omega) hl .un .un .un .un).then fun r m => evSs ⟨txt.consts, callF txt.fs txt.consts 1000 (k - 1)⟩ 1000 t__law_is_good_5 r m
                    cases hf : anyFall n ws with
                    | true =>
                      obtain ⟨d, rfl, e⟩ := q2 hf
                      exact (congrArg endF e).trans rfl
                    | false =>
                      obtain ⟨r, ⟨a2, a3, a4, a5, rfl⟩, e⟩ := q1 hf
                      refine (congrArg endF e).trans ?_
                      have := l_is_less (k := k - 1) (by omega) m (n := n) (b := true) (ws := ws) (by omega) hl
                      simp [t__law_is_good_5, this, less_break]
                  · simp [f__law_is_good, t__law_is_good_0, t__law_is_good_1, t__law_is_good_2, startS, isa_tt, isa_ii, isa_bi, isa_seq hb, hs, h1, h2, ll, len_kids hs, hn, hn', cm, all_bl, hq, i0, z]
              · have hn' : ¬ (((kids b).length : Int) = ((lotsI n).length : Int)) := by rw [lots_len]; omega
                simp [f__law_is_good, t__law_is_good_0, t__law_is_good_1, startS, isa_tt, isa_ii, isa_bi, isa_seq hb, hs, h1, h2, ll, len_kids hs, hn, hn']
          · simp [f__law_is_good, t__law_is_good_0, t__law_is_good_1, startS, isa_tt, isa_ii, isa_bi, h1, h2]
        · simp [f__law_is_good, t__law_is_good_0, t__law_is_good_1, startS, isa_tt, isa_ii, isa_bi, h1]
    · rw [tabLike_non hl]
      simp [f__law_is_good, t__law_is_good_0, startS, isa_tup (top2_top h), ht, two_i, hl]
theorem l_is_saying {k : Nat} (hk : 3 ≤ k) (m : Mu) {d : D} (h : top2 d = true) : callF txt.fs txt.consts 1000 k i__law_is_saying [d] m = .ok (.bl (tabLike 2 4 (inW (-9) 9) d)) m := by
  rw [cl_u (by omega) h__law_is_saying rfl]
  cases ht : isT d with
  | false => simp [f__law_is_saying, startS, isa_tup (top2_top h), ht, tabLike_top ht]
  | true =>
    obtain ⟨l, rfl⟩ := tup_of ht
    by_cases hl : l.length = 2
    · obtain ⟨a, b, rfl⟩ := pair_of hl
      obtain ⟨ha, hb, hx⟩ := top2_pair h
      rw [tabLike_tup]
      cases hi : isI a with
      | false =>
        have z : inW 2 4 a = false := by cases a <;> first | rfl | cases hi
        rw [z]
        cases a <;> first | (cases hi; done) | (cases ha; done) | (simp [f__law_is_saying, startS, isaD]; done)
      | true =>
        obtain ⟨i, rfl⟩ := isI_of hi
        simp only [inW]
        by_cases h1 : 2 ≤ i
        · by_cases h2 : i ≤ 4
          · obtain ⟨n, rfl⟩ : ∃ n : Nat, i = n := ⟨i.toNat, by omega⟩
            have ll := l_lots (k := k - 1) (by omega) m (n := n) (by omega)
            show _ = Res.ok (D.bl (decide (2 ≤ (n : Int)) && decide ((n : Int) ≤ 4) && (isS b && decide ((kids b).length = 2 ^ n) && (kids b).all (inW (-9) 9)))) m
            cases hs : isS b with
            | false => simp [f__law_is_saying, startS, isa_tt, isa_ii, isa_bi, isa_seq hb, hs, h1, h2]
            | true =>
              by_cases hn : (kids b).length = 2 ^ n
              · have hn' : (((kids b).length : Int) = ((lotsI n).length : Int)) := by rw [lots_len]; omega
                have := pow_big (t := (n : Int)) (by omega) (by omega)
                have hz : ((2 : Int) ^ n) = ((lotsI n).length : Int) := by rw [lots_len]; simp
                have cm : ∀ a1, ev ⟨txt.consts, callF txt.fs txt.consts 1000 (k - 1)⟩ x__law_is_saying_0 [.val (.tup [.int n, b]), a1] m = .ok (.lst ((kids b).map fun x => .bl (inW (-9) 9 x))) m := fun a1 => by
                  rw [x__law_is_saying_0, comp_map (kids b) id (fun x => .bl (inW (-9) 9 x)) (by simp; rfl) (by rw [seqI_kids hs, List.map_id]) (fun x hx' => ⟨_, rfl, by
                    have := hx x hx'
                    cases x <;> first | (cases this; done) | (simp [isaD, inW]; done) | skip
                    rename_i j
                    by_cases h9 : -9 ≤ j <;> simp [isa_ii, isa_bi, inW, negop, h9]⟩) (by rw [Int.toNat_natCast] at this; omega)]
                simp [f__law_is_saying, startS, isa_tt, isa_ii, isa_bi, isa_seq hb, hs, h1, h2, ll, len_kids hs, hn, hn', cm, all_bl, hz]
              · have hn' : ¬ (((kids b).length : Int) = ((lotsI n).length : Int)) := by rw [lots_len]; omega
                simp [f__law_is_saying, startS, isa_tt, isa_ii, isa_bi, isa_seq hb, hs, h1, h2, ll, len_kids hs, hn, hn']
          · simp [f__law_is_saying, startS, isa_tt, isa_ii, isa_bi, h1, h2]
        · simp [f__law_is_saying, startS, isa_tt, isa_ii, isa_bi, h1]
    · rw [tabLike_non hl]
      simp [f__law_is_saying, startS, isa_tt, two_i, hl]
end L89

set_option linter.all false
set_option maxRecDepth 100000
set_option maxHeartbeats 4000000
namespace L89
open PySem Mi L2
/-! P: pots and draws. -/
abbrev PB : Int := 2147483629
theorem l_draw {k : Nat} (hk : 1 ≤ k) {L n : Nat} {m : Mu} (h : Pots PB L m) (hn : n < L) {many : Int} (h1 : 1 ≤ many) (h2 : many < 1073741824) :
    ∃ c m', callF txt.fs txt.consts 1000 k i__law_draw [.ref n, .int many] m = .ok (.int c) m' ∧ (0 ≤ c ∧ c < many) ∧ Pots PB L m' := by
  obtain ⟨p0, p1, e, q0, q1, q2⟩ := h.get hn
  have q2 : p1 ≤ 2147483629 := q2
  have hl : n < m.length := by rw [h.len]; exact hn
  have i0 := idx_r e 0
  have i1 := idx_r e 1
  rw [at_0] at i0
  rw [at_1] at i1
  by_cases hp : 0 < p0
  · have dm := dm_int (i := p0) (j := many) (by omega) h2
    refine ⟨p0 % many, m.set n [.int (p0 / many), .int p1], ?_, ⟨Int.emod_nonneg _ (by omega), Int.emod_lt_of_pos _ (by omega)⟩, h.set (Int.ediv_nonneg q0 (by omega)) q1 q2⟩
    rw [cl_u hk h__law_draw rfl]
    simp [f__law_draw, startS, i0, hp, dm, e]
  · have a1 := mul_of (i := p1) (j := 44357) (by omega) (by decide)
    have b1 := mod_int (i := p1 * 44357 + 1259) (j := 2147483629) (by decide)
    have r1 : 0 ≤ (p1 * 44357 + 1259) % 2147483629 := Int.emod_nonneg _ (by decide)
    have r2 : (p1 * 44357 + 1259) % 2147483629 < 2147483629 := Int.emod_lt_of_pos _ (by decide)
    generalize hq : (p1 * 44357 + 1259) % 2147483629 = q at b1 r1 r2
    have e2 : (m.set n [.int p0, .int q])[n]? = some [.int p0, .int q] := List.getElem?_set_self hl
    have i2 := idx_r e2 1
    rw [at_1] at i2
    have a2 := mul_of (i := q) (j := q) (by omega) (by omega)
    have b2 := mod_int (i := q * q) (j := 2147483587) (by decide)
    have c1 := div_int (i := q * q % 2147483587) (j := 13) (by decide) (by decide)
    have b3 := mod_int (i := q * q % 2147483587 / 13) (j := many) (by omega)
    refine ⟨q * q % 2147483587 / 13 % many, m.set n [.int p0, .int q], ?_, ⟨Int.emod_nonneg _ (by omega), Int.emod_lt_of_pos _ (by omega)⟩, h.set q0 r1 (show q ≤ 2147483629 by omega)⟩
    rw [cl_u hk h__law_draw rfl]
    simp [f__law_draw, startS, i0, i1, hp, a1, b1, e, i2, a2, b2, c1, b3]
theorem l_pick {k : Nat} (hk : 2 ≤ k) {L n : Nat} {m : Mu} (h : Pots PB L m) (hn : n < L) {xs : List D} (h1 : xs ≠ []) (h2 : xs.length < 1000000) :
    ∃ d m', callF txt.fs txt.consts 1000 k i__law_pick [.ref n, .lst xs] m = .ok d m' ∧ d ∈ xs ∧ Pots PB L m' := by
  have hl : 0 < xs.length := List.length_pos_iff.mpr h1
  obtain ⟨c, m', e, ⟨c1, c2⟩, h'⟩ := l_draw (k := k - 1) (by omega) h hn (many := (xs.length : Int)) (by omega) (by omega)
  obtain ⟨j, rfl⟩ : ∃ j : Nat, c = j := ⟨c.toNat, by omega⟩
  have hj : j < xs.length := by omega
  refine ⟨xs[j], m', ?_, List.getElem_mem hj, h'⟩
  rw [cl_u (by omega) h__law_pick rfl]
  simp [f__law_pick, startS, e, idx_l, at_nat, List.getElem?_eq_getElem hj]
theorem l_pot {k : Nat} (hk : 1 ≤ k) {L : Nat} {m : Mu} (h : Pots PB L m) (ns : List Int) (j : Nat) (hj : j ≤ 62) : ∃ m', callF txt.fs txt.consts 1000 k i__law_pot [.scr ns, .int j] m = .ok (.ref L) m' ∧ Pots PB (L + 1) m' := by
  have main : ∀ cell : Int, 0 ≤ cell → Pots PB (L + 1) (m ++ [[D.int (if cell - 1000000000000000000 > 0 then cell - 1000000000000000000 else 0), D.int ((cell % 2147483549 * 44357 + 1259 * j + 23446) % 2147483579 + 1)]]) := fun cell hc => by
    have := Int.emod_nonneg (cell % 2147483549 * 44357 + 1259 * j + 23446) (b := 2147483579) (by decide)
    have := Int.emod_lt_of_pos (cell % 2147483549 * 44357 + 1259 * j + 23446) (b := 2147483579) (by decide)
    exact h.add (by split <;> omega) (by omega) (show _ ≤ (2147483629 : Int) by omega)
  have step : ∀ cell : Int, binop .Mult (.int (cell % 2147483549)) (.int 44357) = some (.int (cell % 2147483549 * 44357)) := fun cell => mul_of (by
    have := Int.emod_nonneg cell (b := 2147483549) (by decide)
    have := Int.emod_lt_of_pos cell (b := 2147483549) (by decide)
    omega) (by decide)
  have mj := mul_of (i := 1259) (j := (j : Int)) (by decide) (by omega)
  have mk := mul_of (i := 2693) (j := (j : Int)) (by decide) (by omega)
  have md : ∀ i : Int, binop .Mod (.int i) (.int 2147483549) = some (.int (i % 2147483549)) := fun i => mod_int (by decide)
  have md2 : ∀ i : Int, binop .Mod (.int i) (.int 2147483579) = some (.int (i % 2147483579)) := fun i => mod_int (by decide)
  by_cases hlt : j < ns.length
  · refine ⟨_, ?_, main (ns[j].natAbs) (by omega)⟩
    have hi : idxD m (.scr ns) (.int j) = some (.int ns[j]) := by
      rw [idx_s, at_nat, List.getElem?_eq_getElem hlt]
      rfl
    have hl : ((j : Int) < (ns.length : Int)) := by omega
    rw [cl_u hk h__law_pot rfl]
    simp [f__law_pot, startS, hlt, hi, natAbs_if, pow18, md, md2, step _, mj, mk, h.len]
  · refine ⟨_, ?_, main (2693 * j + 2182) (by omega)⟩
    rw [cl_u hk h__law_pot rfl]
    simp [f__law_pot, startS, hlt, pow18, md, md2, step _, mj, mk, h.len]
end L89

set_option linter.all false
set_option maxRecDepth 100000
set_option maxHeartbeats 4000000
namespace L89
open PySem Mi L2
/-! A8: sums, sayings added and renamed. -/
def dot (l k : List Int) : Int := ((l.zip k).map fun q => q.1 * q.2).sum
def Bd (b : Int) (l : List Int) : Prop := ∀ x ∈ l, -b ≤ x ∧ x ≤ b
theorem tl_is (n : Nat) (xs : List D) : D.tup [.int (n : Int), .lst xs] = .tup [.int (n : Int), seqD true xs] := rfl
theorem prod_compW {g : Mi.Env0} {own : List (Str × Nat)} {r : List Slot} {m m1 : Mu} {its : Exs} {l k : List Int} {i j : Nat} (ne : i ≠ j)
    (hr : ∀ d e, ∃ r', bindT (.tp [i, j]) (.tup [d, e]) (wipeS r (own.map (·.2))) = some r' ∧ r'[i]? = some (.val d) ∧ r'[j]? = some (.val e))
    (h1 : evx g its r m = .ok [.lst (l.map D.int), .lst (k.map D.int)] m1) (hl : Bd 1000000000000000000000000000000 l) (hk : Bd 1000000000000000000000000000000 k) (h4 : l.length ≤ 1000) :
    ev g (.comp own (.op .Mult (.var i) (.var j)) (.tp [i, j]) .zip its) r m = .ok (.lst (((l.zip k).map fun q => q.1 * q.2).map D.int)) m1 := by
  rw [comp_mapW (l.zip k) (fun q => .tup [.int q.1, .int q.2]) (fun q => .int (q.1 * q.2)) h1 (items_zipL D.int D.int l k) (fun q hq => by
    obtain ⟨r', e1, e2, e3⟩ := hr (.int q.1) (.int q.2)
    refine ⟨r', e1, ?_⟩
    have hq := List.of_mem_zip (a := q.1) (b := q.2) hq
    have b1 := hl _ hq.1
    have b2 := hk _ hq.2
    simp [e2, e3, mul_s (i := q.1) (j := q.2) (by omega) (by omega) (by omega) (by omega)]) (by
    rw [List.length_zip]
    omega), List.map_map]
  rfl
theorem prod_comp {g : Mi.Env0} {own : List (Str × Nat)} {r : List Slot} {m : Mu} {its : Exs} {l k : List Int} {i j : Nat} (ne : i ≠ j)
    (hr : ∀ d e, ∃ r', bindT (.tp [i, j]) (.tup [d, e]) (wipeS r (own.map (·.2))) = some r' ∧ r'[i]? = some (.val d) ∧ r'[j]? = some (.val e))
    (h1 : evx g its r m = .ok [.lst (l.map D.int), .lst (k.map D.int)] m) (hl : Bd 1000000000000000000000000000000 l) (hk : Bd 1000000000000000000000000000000 k) (h4 : l.length ≤ 1000) :
    ev g (.comp own (.op .Mult (.var i) (.var j)) (.tp [i, j]) .zip its) r m = .ok (.lst (((l.zip k).map fun q => q.1 * q.2).map D.int)) m := prod_compW ne hr h1 hl hk h4
theorem r_sum_by {k : Nat} (hk : 1 ≤ k) (m : Mu) {n n' : Nat} {l w : List Int} (hl : Bd 1000000000000000000000000000000 l) (hw : Bd 1000000000000000000000000000000 w) (h4 : l.length ≤ 1000) :
    callF txt.fs txt.consts 1000 k i_sum_by [tabD n true l, tabD n' true w] m = .ok (.int (dot l w)) m := by
  rw [cl_u hk h_sum_by rfl]
  simp [f_sum_by, startS, tabD, seqD]
  rw [x_sum_by_0, prod_comp (l := l) (k := w) (by decide) (fun d e => ⟨_, rfl, rfl, rfl⟩) (by simp) hl hw h4]
  simp only [bind_ok', sum_ints, of_some, st_ok', endF_rt]
  rfl
theorem l_sum_for {k : Nat} (hk : 1 ≤ k) (m : Mu) {n n' : Nat} {l w : List Int} (hl : Bd 1000000000000000000000000000000 l) (hw : Bd 1000000000000000000000000000000 w) (h4 : l.length ≤ 1000) :
    callF txt.fs txt.consts 1000 k i__law_sum_for [tabD n true l, tabD n' true w] m = .ok (.int (dot l w)) m := by
  rw [cl_u hk h__law_sum_for rfl]
  simp [f__law_sum_for, startS, tabD, seqD]
  rw [x__law_sum_for_0, prod_comp (l := l) (k := w) (by decide) (fun d e => ⟨_, rfl, rfl, rfl⟩) (by simp) hl hw h4]
  simp only [bind_ok', sum_ints, of_some, st_ok', endF_rt]
  rfl
/-- a saying, a table of n things -/
structure Say (n : Nat) (l : List Int) : Prop where
  n2 : 2 ≤ n
  n4 : n ≤ 4
  len : l.length = 2 ^ n
  bd : Bd 9 l
structure Tab (n : Nat) (l : List Int) : Prop where
  n1 : 1 ≤ n
  n5 : n ≤ 5
  len : l.length = 2 ^ n
  bd : Bd 99 l
theorem top2_tab (n : Nat) (b : Bool) (l : List Int) : top2 (tabD n b l) = true := by
  cases b <;> simp [top2, tabD, seqD, top, kids]
theorem Say.is {n : Nat} {l : List Int} (h : Say n l) (b : Bool) : tabLike 2 4 (inW (-9) 9) (tabD n b l) = true :=
  tab_is (by have := h.n2; omega) (by have := h.n4; omega) h.len fun w hw => by simp [inW, h.bd w hw]
theorem Tab.is {n : Nat} {l : List Int} (h : Tab n l) (b : Bool) : tabLike 1 5 (inW (-99) 99) (tabD n b l) = true :=
  tab_is (by have := h.n1; omega) (by have := h.n5; omega) h.len fun w hw => by simp [inW, h.bd w hw]
theorem Bd.mono {a b : Int} {l : List Int} (h : Bd a l) (hab : a ≤ b) : Bd b l := fun x hx => by
  have := h x hx
  omega
theorem len32 {n : Nat} (h : n ≤ 5) : 2 ^ n ≤ 32 := Nat.pow_le_pow_right (by decide) h
theorem r_check_saying {k : Nat} (hk : 4 ≤ k) (m : Mu) {n : Nat} {b : Bool} {l : List Int} (h : Say n l) : callF txt.fs txt.consts 1000 k i_check_saying [tabD n b l] m = .ok .non m := by
  rw [cl_u (by omega) h_check_saying rfl]
  have := r_is_saying_of (k := k - 1) (by omega) m (top2_tab n b l)
  rw [h.is] at this
  simp [f_check_saying, startS, this]
theorem r_check_table {k : Nat} (hk : 4 ≤ k) (m : Mu) {n : Nat} {b : Bool} {l : List Int} (h : Tab n l) : callF txt.fs txt.consts 1000 k i_check_table [tabD n b l] m = .ok .non m := by
  rw [cl_u (by omega) h_check_table rfl]
  have := r_is_table_of (k := k - 1) (by omega) m (top2_tab n b l)
  rw [h.is] at this
  simp [f_check_table, startS, this]
theorem idx0_tab (m : Mu) (n : Nat) (b : Bool) (l : List Int) : idxD m (tabD n b l) (.int 0) = some (.int n) := rfl
theorem idx1_tab (m : Mu) (n : Nat) (b : Bool) (l : List Int) : idxD m (tabD n b l) (.int 1) = some (seqD b (l.map .int)) := rfl
theorem r_sum_for {k : Nat} (hk : 5 ≤ k) (m : Mu) {n : Nat} {l w : List Int} (hl : Say n l) (hw : Tab n w) : callF txt.fs txt.consts 1000 k i_sum_for [tabD n true l, tabD n true w] m = .ok (.int (dot l w)) m := by
  rw [cl_u (by omega) h_sum_for rfl]
  have l32 := len32 hw.n5
  simp [f_sum_for, startS, r_check_saying (k := k - 1) (by omega) m hl, r_check_table (k := k - 1) (by omega) m hw, idx0_tab,
    r_sum_by (k := k - 1) (by omega) m (n := n) (n' := n) (hl.bd.mono (by decide)) (hw.bd.mono (by decide)) (by rw [hl.len]; omega)]
def addL (l k : List Int) : List Int := (l.zip k).map fun q => q.1 + q.2
def absL (l : List Int) : List Int := l.map fun i => if i < 0 then -i else i
theorem add_compW {g : Mi.Env0} {own : List (Str × Nat)} {r : List Slot} {m m1 : Mu} {its : Exs} {l k : List Int} {i j : Nat}
    (hr : ∀ d e, ∃ r', bindT (.tp [i, j]) (.tup [d, e]) (wipeS r (own.map (·.2))) = some r' ∧ r'[i]? = some (.val d) ∧ r'[j]? = some (.val e))
    (h1 : evx g its r m = .ok [.lst (l.map D.int), .lst (k.map D.int)] m1) (h4 : l.length ≤ 1000) :
    ev g (.comp own (.op .Add (.var i) (.var j)) (.tp [i, j]) .zip its) r m = .ok (.lst ((addL l k).map D.int)) m1 := by
  rw [comp_mapW (l.zip k) (fun q => .tup [.int q.1, .int q.2]) (fun q => .int (q.1 + q.2)) h1 (items_zipL D.int D.int l k) (fun q hq => by
    obtain ⟨r', e1, e2, e3⟩ := hr (.int q.1) (.int q.2)
    refine ⟨r', e1, ?_⟩
    simp [e2, e3]) (by
    rw [List.length_zip]
    omega), addL, List.map_map]
  rfl
theorem add_comp {g : Mi.Env0} {own : List (Str × Nat)} {r : List Slot} {m : Mu} {its : Exs} {l k : List Int} {i j : Nat}
    (hr : ∀ d e, ∃ r', bindT (.tp [i, j]) (.tup [d, e]) (wipeS r (own.map (·.2))) = some r' ∧ r'[i]? = some (.val d) ∧ r'[j]? = some (.val e))
    (h1 : evx g its r m = .ok [.lst (l.map D.int), .lst (k.map D.int)] m) (h4 : l.length ≤ 1000) :
    ev g (.comp own (.op .Add (.var i) (.var j)) (.tp [i, j]) .zip its) r m = .ok (.lst ((addL l k).map D.int)) m := add_compW hr h1 h4
theorem max_ints (l : List Int) : b1op .max (.lst (l.map D.int)) = (maxL l).map .int := by simp [b1op, ints_map]
theorem r_saying_plus {k : Nat} (hk : 5 ≤ k) (m : Mu) {n : Nat} {l w : List Int} (hl : Say n l) (hw : Say n w) {v : Int} (hv : maxL (absL (addL l w)) = some v) (h9 : v < 10) :
    callF txt.fs txt.consts 1000 k i_saying_plus [tabD n true l, tabD n true w] m = .ok (tabD n true (addL l w)) m := by
  rw [cl_u (by omega) h_saying_plus rfl]
  have l32 := len32 (n := n) (by have := hl.n4; omega)
  have al : (addL l w).length ≤ 32 := by
    unfold addL
    rw [List.length_map, List.length_zip, hl.len]
    omega
  have c1 : ∀ a2 a3 a4, ev ⟨txt.consts, callF txt.fs txt.consts 1000 (k - 1)⟩ x_saying_plus_0 [.val (tabD n true l), .val (tabD n true w), a2, a3, a4] m = .ok (.lst ((addL l w).map D.int)) m := fun a2 a3 a4 => by
    rw [x_saying_plus_0, add_comp (l := l) (k := w) (fun d e => ⟨_, rfl, rfl, rfl⟩) (by simp [idx1_tab, seqD]) (by rw [hl.len]; omega)]
  have c2 : ∀ a3 a4, ev ⟨txt.consts, callF txt.fs txt.consts 1000 (k - 1)⟩ x_saying_plus_1 [.val (tabD n true l), .val (tabD n true w), .val (.lst ((addL l w).map D.int)), a3, a4] m = .ok (.lst ((absL (addL l w)).map D.int)) m := fun a3 a4 => by
    rw [x_saying_plus_1, comp_map (addL l w) D.int (fun i => .int (if i < 0 then -i else i)) (by simp; rfl) rfl (fun x _ => ⟨_, rfl, by simp⟩) (by omega), absL, List.map_map]
    rfl
  have cw : callF txt.fs txt.consts 1000 (k - 1) i_want_at_most [.str (Str.ofString "numbers"), .int 9, .int v] m = .ok .non m := by
    rw [cl_u (by omega) h_want_at_most rfl]
    have : ¬ (9 : Int) < v := by omega
    simp [f_want_at_most, startS, this]
  simp [f_saying_plus, t_saying_plus_0, t_saying_plus_1, t_saying_plus_2, t_saying_plus_3, t_saying_plus_4, t_saying_plus_5, startS, r_check_saying (k := k - 1) (by omega) m hl, r_check_saying (k := k - 1) (by omega) m hw, idx0_tab, c1, c2, max_ints, hv, k_MOST_NUMBER, cw]
  rfl
end L89

set_option linter.all false
set_option maxRecDepth 100000
set_option maxHeartbeats 4000000
namespace L89
open PySem Mi L2
/-! A9: renaming. -/
def osf (os : List Int) (t : Int) : Int := os.getD t.toNat 0
/-- an order of n things -/
structure Ord (n : Nat) (os : List Int) : Prop where
  n1 : 1 ≤ n
  n5 : n ≤ 5
  len : os.length = n
  rng : ∀ o ∈ os, 0 ≤ o ∧ o < n
  nb : (nub os).length = n
  num : ∀ ls ∈ lotsI n, numI (ls.map (osf os)) < 2 ^ n
  thg : ∀ ls ∈ lotsI n, (∀ t ∈ ls, 0 ≤ t ∧ t < n) ∧ Th5 (ls.map (osf os)) ∧ ls.length ≤ 5
def mvd (n : Nat) (os ns : List Int) : List Int := ((lotsI n).zip ns).foldl (fun acc q => acc.set (numI (q.1.map (osf os))) q.2) (List.replicate (2 ^ n) 0)
theorem r_number_byL {k : Nat} (hk : 1 ≤ k) (m : Mu) {ls : List Int} (h : Th5 ls) (hl : ls.length ≤ 1000) : callF txt.fs txt.consts 1000 k i_number_by [.lst (ls.map .int)] m = .ok (.int (numI ls : Nat)) m := by
  rw [cl_u hk h_number_by rfl]
  simp [f_number_by, startS]
  rw [x_number_by_0, comp_map ls D.int (fun t => D.int ((2 ^ t.toNat : Nat) : Int)) (by simp; rfl) (by simp) (fun t ht => ⟨_, rfl, by simp [k_POWERS]; exact congrArg (Res.of · m) (pow_idx (h t ht) m)⟩) (by omega)]
  have : (ls.map fun t => D.int ((2 ^ t.toNat : Nat) : Int)) = (ls.map fun t => ((2 ^ t.toNat : Nat) : Int)).map D.int := by rw [List.map_map]; rfl
  rw [this]
  simp only [bind_ok', sum_ints, of_some, st_ok', endF_rt]
  rw [sum_nat]
  rfl
theorem ix_nat {N j : Nat} (h : j < N) : ixN N (j : Int) = some j := by
  unfold ixN
  rw [if_pos (by omega), if_pos (by omega)]
  rfl
theorem set_map (l : List Int) (i : Nat) (x : Int) : (l.map D.int).set i (.int x) = (l.set i x).map D.int := by rw [List.map_set]
theorem fold_len {α : Type} (f : α → Nat) (g : α → Int) (qs : List α) (acc : List Int) : (qs.foldl (fun acc q => acc.set (f q) (g q)) acc).length = acc.length := by
  induction qs generalizing acc with
  | nil => rfl
  | cons q qs ih => rw [List.foldl_cons, ih, List.length_set]
theorem mul_rep (j : Nat) (h : j ≤ 1000) : binop .Mult (.lst [.int 0]) (.int (j : Int)) = some (.lst ((List.replicate j (0 : Int)).map D.int)) := by
  have c : (decide (0 ≤ (j : Int) ∧ (j : Int) < 10000) && fit (([D.int 0] : List D).length * (j : Int).toNat)) = true := by
    simp [fit]
    omega
  have fl : ∀ j : Nat, (List.replicate j [D.int 0]).flatten = List.replicate j (D.int 0) := fun j => by
    induction j with
    | zero => rfl
    | succ j ih => rw [List.replicate_succ, List.flatten_cons, ih]; rfl
  refine (if_pos c).trans ?_
  rw [Int.toNat_natCast, fl, List.map_replicate]
/-- the loop: what lies behind a number is set -/
theorem set_loop {α : Type} {f : D → List Slot → Mu → SRes} {e : α → D} {m : Mu} (at_ : α → Nat) (to : α → Int) (S : List Int → List Slot → Prop) (N : Nat) (qs : List α) (acc : List Int) (hN : acc.length = N) (r : List Slot) (h0 : S acc r)
    (st : ∀ q ∈ qs, ∀ acc r, acc.length = N → S acc r → ∃ r', f (e q) r m = .nx r' m ∧ S (acc.set (at_ q) (to q)) r') :
    ∃ r', forR f (qs.map e) r m = .nx r' m ∧ S (qs.foldl (fun acc q => acc.set (at_ q) (to q)) acc) r' := by
  induction qs generalizing acc r with
  | nil => exact ⟨r, rfl, h0⟩
  | cons q qs ih =>
    obtain ⟨r1, e1, s1⟩ := st q List.mem_cons_self acc r hN h0
    obtain ⟨r2, e2, s2⟩ := ih (acc.set (at_ q) (to q)) (by rw [List.length_set]; exact hN) r1 s1 fun q' hq => st q' (List.mem_cons_of_mem _ hq)
    refine ⟨r2, ?_, s2⟩
    rw [List.map_cons, forR, e1]
    exact e2
theorem idx_os {os : List Int} {t : Int} (h : 0 ≤ t ∧ t < os.length) (m : Mu) : idxD m (.tup (os.map D.int)) (.int t) = some (.int (osf os t)) := by
  obtain ⟨j, rfl⟩ : ∃ j : Nat, t = j := ⟨t.toNat, by omega⟩
  have hj : j < os.length := by omega
  rw [idx_t, at_nat, List.getElem?_map, List.getElem?_eq_getElem hj]
  simp [osf, hj]
theorem ord_comp {k : Nat} {r : List Slot} {m : Mu} {n : Nat} {os ls : List Int} (ho : Ord n os) (hls : ls ∈ lotsI n) (i : Nat) (x : Nat) (hi : i < r.length) (hx : r[x]? = some (.val (lotD ls))) (ne : i ≠ x) (y : Nat) (ny : i ≠ y) (hy : r[y]? = some (.val (.tup (os.map D.int)))) (nm : Str) :
    ev ⟨txt.consts, callF txt.fs txt.consts 1000 k⟩ (.comp [(nm, i)] (.idx (.var y) (.var i)) (.nm i) .seq (.cons (.var x) .nil)) r m = .ok (.lst ((ls.map (osf os)).map D.int)) m := by
  have hl := (ho.thg ls hls).2.2
  rw [comp_map ls D.int (fun t => .int (osf os t)) (ds := [lotD ls]) (by simp [hx]) rfl (fun t ht => ⟨_, rfl, by
    have := (ho.thg ls hls).1 t ht
    have e := idx_os (os := os) (t := t) ⟨this.1, by rw [ho.len]; exact this.2⟩ m
    have g1 : (((wipeS r (List.map (fun x => x.snd) [(nm, i)])).set i (Slot.val (.int t)))[i]?) = some (.val (.int t)) := by simp [hi]
    have g2 : (((wipeS r (List.map (fun x => x.snd) [(nm, i)])).set i (Slot.val (.int t)))[y]?) = some (.val (.tup (os.map D.int))) := by
      simp [List.getElem?_set, ny, hy]
    rw [ev_idx]
    simp only [ev_var, vx_var, g1, g2, bind_ok', e, of_some]⟩) (by omega), List.map_map]
  rfl
theorem b_saying_by {k : Nat} (hk : 2 ≤ k) (m : Mu) {n : Nat} (hn : n ≤ 5) {rows : List (List Int × Int)} {fn : List Int → List Int} (h : ∀ q ∈ rows, Th5 (fn q.1) ∧ (fn q.1).length ≤ 5 ∧ numI (fn q.1) < 2 ^ n) :
    callF txt.fs txt.consts 1000 k i_saying_by [.int n, .lst (rows.map fun q => .tup [.lst ((fn q.1).map .int), .int q.2])] m = .ok (tabD n true (rows.foldl (fun acc q => acc.set (numI (fn q.1)) q.2) (List.replicate (2 ^ n) 0))) m := by
  rw [cl_u (by omega) h_saying_by rfl]
  obtain ⟨P, hP, hP2, pw⟩ := pow6' (t := (n : Int)) (by omega) (by omega) m
  rw [Int.toNat_natCast] at hP
  obtain ⟨r', e, a3, a4, rfl⟩ := set_loop (f := forB ⟨txt.consts, callF txt.fs txt.consts 1000 (k - 1)⟩ 1000 (.tp [3, 4]) b_saying_by_0) (e := fun q : List Int × Int => .tup [.lst ((fn q.1).map .int), .int q.2]) (m := m) (fun q => numI (fn q.1)) (fun q => q.2)
    (fun acc r => ∃ a3 a4, r = [.val (.int n), .val (.lst (rows.map fun q => .tup [.lst ((fn q.1).map .int), .int q.2])), .own (acc.map .int), a3, a4]) P rows (List.replicate P 0) (by simp) [.val (.int n), .val (.lst (rows.map fun q => .tup [.lst ((fn q.1).map .int), .int q.2])), .own ((List.replicate P (0 : Int)).map .int), .un, .un] ⟨_, _, rfl⟩ (by
    rintro q hq acc r hN ⟨a3, a4, rfl⟩
    obtain ⟨h1, h2, h3⟩ := h q hq
    have rn := r_number_byL (k := k - 1) (by omega) m h1 (by omega)
    have ix := ix_nat (N := acc.length) (j := numI (fn q.1)) (by rw [hN, hP]; exact h3)
    simp [forB, b_saying_by_0, bindT, setAll, rn, ix, ← set_map])
  have mr := mul_rep P (by omega)
  simp [f_saying_by, startS, k_POWERS, pw, mr]
  simp at e
  rw [e]
  simp [tabD, seqD, hP]
theorem isL {b : D} (h : isS b = true) : isaD .seq b = some true := by cases b <;> first | rfl | cases h
theorem Ord.within {n : Nat} {os : List Int} (h : Ord n os) : (os.map fun o => inW 0 ((n : Int) - 1) (.int o)) = os.map fun _ => true := List.map_congr_left fun o ho => by
  have := h.rng o ho
  simp [inW]
  omega
theorem Ord.all {n : Nat} {os : List Int} (h : Ord n os) : b1op .all (.lst (os.map fun o => D.bl (inW 0 ((n : Int) - 1) (.int o)))) = some (.bl true) :=
  all_true os _ fun o ho => by
    have := h.rng o ho
    simp [inW]
    omega
theorem lenSet_ints (l : List Int) (h : l.length ≤ 1000) : spop .lenSet (.tup (l.map D.int)) = some (.int (nub l).length) := by
  simp [spop, ints_map, h]
theorem zip_th {n : Nat} {os : List Int} (ho : Ord n os) {l : List Int} : ∀ q ∈ (lotsI n).zip l, Th5 (q.1.map (osf os)) ∧ (q.1.map (osf os)).length ≤ 5 ∧ numI (q.1.map (osf os)) < 2 ^ n := fun q hq => by
  have hq := (List.of_mem_zip (a := q.1) (b := q.2) hq).1
  exact ⟨(ho.thg _ hq).2.1, by rw [List.length_map]; exact (ho.thg _ hq).2.2, ho.num _ hq⟩
theorem isa_tl (l : List D) : isaD .tuple (.tup l) = some true := rfl
theorem r_saying_renamed {k : Nat} (hk : 5 ≤ k) (m : Mu) {n : Nat} {l os : List Int} (hl : Say n l) (ho : Ord n os) :
    callF txt.fs txt.consts 1000 k i_saying_renamed [tabD n true l, .tup (os.map .int)] m = .ok (tabD n true (mvd n os l)) m := by
  rw [cl_u (by omega) h_saying_renamed rfl]
  have h5 := ho.n5
  have hol := ho.len
  have hnb := ho.nb
  have hlen := hl.len
  have l32 := len32 h5
  have c0 : ∀ a3 a4 a5, ev ⟨txt.consts, callF txt.fs txt.consts 1000 (k - 1)⟩ x_saying_renamed_0 [.val (tabD n true l), .val (.tup (os.map .int)), .val (.int n), a3, a4, a5] m = .ok (.lst (os.map fun o => D.bl (inW 0 ((n : Int) - 1) (.int o)))) m := fun a3 a4 a5 => by
    rw [x_saying_renamed_0, comp_map os D.int (fun o => .bl (inW 0 ((n : Int) - 1) (.int o))) (by simp; rfl) rfl (fun o _ => ⟨_, rfl, by simp; exact r_is_within (k := k - 1) (by omega) m rfl _ _⟩) (by omega)]
  have ra := r_all_lots (k := k - 1) (by omega) m h5
  have c2 : ∀ a3 a4 a5, ev ⟨txt.consts, callF txt.fs txt.consts 1000 (k - 1)⟩ x_saying_renamed_2 [.val (tabD n true l), .val (.tup (os.map .int)), .val (.int n), a3, a4, a5] m = .ok (.lst (((lotsI n).zip l).map fun q => .tup [.lst ((q.1.map (osf os)).map .int), .int q.2])) m := fun a3 a4 a5 => by
    rw [x_saying_renamed_2, comp_map ((lotsI n).zip l) (fun q => .tup [lotD q.1, .int q.2]) (fun q => .tup [.lst ((q.1.map (osf os)).map .int), .int q.2]) (by simp [ra, idx1_tab, seqD]) (items_zipL lotD D.int (lotsI n) l) (fun q hq => ⟨_, rfl, by
      have hq := (List.of_mem_zip (a := q.1) (b := q.2) hq).1
      simp
      rw [x_saying_renamed_1, ord_comp ho hq 5 3 (by simp) (by simp) (by decide) 1 (by decide) (by simp), List.map_map]
      rfl⟩) (by rw [List.length_zip]; omega)]
  have sb := b_saying_by (k := k - 1) (by omega) m h5 (rows := (lotsI n).zip l) (fn := fun ls => ls.map (osf os)) (zip_th ho)
  simp [f_saying_renamed, t_saying_renamed_0, t_saying_renamed_1, t_saying_renamed_2, t_saying_renamed_3, t_saying_renamed_4, startS, r_check_saying (k := k - 1) (by omega) m hl, idx0_tab, isa_tl, hol, c0, ho.all, lenSet_ints os (by omega), hnb, c2]
  simp at sb
  rw [sb]
  simp [mvd]
theorem r_renamed {k : Nat} (hk : 5 ≤ k) (m : Mu) {n : Nat} {l os : List Int} (hl : Tab n l) (ho : Ord n os) :
    callF txt.fs txt.consts 1000 k i_renamed [tabD n true l, .tup (os.map .int)] m = .ok (tabD n true (mvd n os l)) m := by
  rw [cl_u (by omega) h_renamed rfl]
  have h5 := ho.n5
  have hol := ho.len
  have hnb := ho.nb
  have hlen := hl.len
  have l32 := len32 h5
  have c0 : ∀ a2 a3 a4 a5, ev ⟨txt.consts, callF txt.fs txt.consts 1000 (k - 1)⟩ x_renamed_0 [.val (tabD n true l), .val (.tup (os.map .int)), a2, a3, a4, a5] m = .ok (.lst (os.map fun o => D.bl (inW 0 ((n : Int) - 1) (.int o)))) m := fun a2 a3 a4 a5 => by
    rw [x_renamed_0, comp_map os D.int (fun o => .bl (inW 0 ((n : Int) - 1) (.int o))) (by simp; rfl) rfl (fun o _ => ⟨_, rfl, by simp [idx0_tab]; exact r_is_within (k := k - 1) (by omega) m rfl _ _⟩) (by omega)]
  have ra := r_all_lots (k := k - 1) (by omega) m h5
  have zt := zip_th ho (l := l)
  obtain ⟨r', e, a3, a4, a5, rfl⟩ := set_loop (f := forB ⟨txt.consts, callF txt.fs txt.consts 1000 (k - 1)⟩ 1000 (.tp [3, 4]) b_renamed_0) (e := fun q : List Int × Int => .tup [lotD q.1, .int q.2]) (m := m) (fun q => numI (q.1.map (osf os))) (fun q => q.2)
    (fun acc r => ∃ a3 a4 a5, r = [.val (tabD n true l), .val (.tup (os.map .int)), .own (acc.map .int), a3, a4, a5]) l.length ((lotsI n).zip l) (List.replicate l.length 0) (by simp) [.val (tabD n true l), .val (.tup (os.map .int)), .own ((List.replicate l.length (0 : Int)).map .int), .un, .un, .un] ⟨_, _, _, rfl⟩ (by
    rintro q hq acc r hN ⟨a3, a4, a5, rfl⟩
    obtain ⟨h1, h2, h3⟩ := zt q hq
    have hq := (List.of_mem_zip (a := q.1) (b := q.2) hq).1
    have rn := r_number_byL (k := k - 1) (by omega) m h1 (by omega)
    have ix := ix_nat (N := acc.length) (j := numI (q.1.map (osf os))) (by rw [hN, hlen]; exact h3)
    have oc : ev ⟨txt.consts, callF txt.fs txt.consts 1000 (k - 1)⟩ x_renamed_1 _ m = _ := ord_comp (k := k - 1) (r := [.val (tabD n true l), .val (.tup (os.map .int)), .own (acc.map .int), .val (lotD q.1), .val (.int q.2), a5]) (m := m) ho hq 5 3 (by simp) (by simp) (by decide) 1 (by decide) (by simp) (Str.ofString "thing")
    simp at rn
    simp [forB, b_renamed_0, bindT, setAll, oc, rn, ix, ← set_map])
  have mr := mul_rep l.length (by omega)
  have iz := items_zipL lotD D.int (lotsI n) l
  simp [f_renamed, t_renamed_0, t_renamed_1, t_renamed_2, t_renamed_3, t_renamed_4, t_renamed_5, t_renamed_6, startS, r_check_table (k := k - 1) (by omega) m hl, idx0_tab, idx1_tab, seqD, isa_tl, hol, c0, ho.all, lenSet_ints os (by omega), hnb, mr, ra, iz]
  simp at e
  rw [e]
  simp [tabD, seqD, mvd, hlen]
end L89

set_option linter.all false
set_option maxRecDepth 100000
set_option maxHeartbeats 4000000
namespace L89
open PySem Mi L2
/-! A10: plain sayings; what is good by them; sums are kept by a renaming. -/
def rowT (n : Nat) (t : Int) : List Int := ((List.replicate (2 ^ n) (0 : Int)).set (2 ^ n - 1) 1).set (2 ^ n - 1 - 2 ^ t.toNat) (-1)
def rowB (n s : Nat) (t u : Int) : List Int := ((((List.replicate (2 ^ n) (0 : Int)).set (s + 2 ^ t.toNat) 1).set (s + 2 ^ u.toNat) 1).set s (-1)).set (s + 2 ^ t.toNat + 2 ^ u.toNat) (-1)
def rngI (n : Nat) : List Int := (List.range n).map fun (t : Nat) => (t : Int)
def plainI (n : Nat) : List (List Int) := (rngI n).map (rowT n) ++ (lotsI n).flatMap fun ls => (restI n ls).zipIdx.flatMap fun q => ((restI n ls).drop (q.2 + 1)).map fun u => rowB n (numI ls) q.1 u
theorem r_plain_of {k : Nat} (hk : 4 ≤ k) (m : Mu) {n : Nat} (h2 : 2 ≤ n) (h4 : n ≤ 4) : callF txt.fs txt.consts 1000 k i_plain_of [.int n] m = .ok (.lst ((plainI n).map (tabD n true))) m := by
  obtain ⟨k, rfl⟩ : ∃ j, k = j + 4 := ⟨k - 4, by omega⟩
  have : n = 2 ∨ n = 3 ∨ n = 4 := by omega
  rcases this with rfl | rfl | rfl <;> rfl
theorem l_plain {k : Nat} (hk : 4 ≤ k) (m : Mu) {n : Nat} (h2 : 2 ≤ n) (h4 : n ≤ 4) : callF txt.fs txt.consts 1000 k i__law_plain_sayings [.int n] m = .ok (.lst ((plainI n).map (tabD n true))) m := by
  obtain ⟨k, rfl⟩ : ∃ j, k = j + 4 := ⟨k - 4, by omega⟩
  have : n = 2 ∨ n = 3 ∨ n = 4 := by omega
  rcases this with rfl | rfl | rfl <;> rfl
theorem r_plain_sayings {k : Nat} (hk : 5 ≤ k) (m : Mu) {n : Nat} (h2 : 2 ≤ n) (h4 : n ≤ 4) : callF txt.fs txt.consts 1000 k i_plain_sayings [.int n] m = .ok (.lst ((plainI n).map (tabD n true))) m := by
  rw [cl_u (by omega) h_plain_sayings rfl]
  have w := r_is_within (k := k - 1) (by omega) m (d := .int n) rfl 2 4
  have e : inW 2 4 (.int n) = true := by
    simp [inW]
    omega
  rw [e] at w
  have p := r_plain_of (k := k - 1) (by omega) m h2 h4
  simp [f_plain_sayings, startS, k_LEAST_THINGS, k_MOST_THINGS_SAID, w, p]
end L89

set_option linter.all false
set_option maxRecDepth 100000
set_option maxHeartbeats 4000000
namespace L89
open PySem Mi L2
/-! A11: what is good by plain sayings; sums are kept by a renaming. -/
theorem dot_nil (l : List Int) : dot l [] = 0 := by simp [dot]
theorem dot_cons (a b : Int) (l k : List Int) : dot (a :: l) (b :: k) = a * b + dot l k := by simp [dot]
theorem dot_rep (j : Nat) (w : List Int) : dot (List.replicate j 0) w = 0 := by
  induction j generalizing w with
  | zero => simp [dot]
  | succ j ih => cases w with
    | nil => exact dot_nil _
    | cons b w => rw [List.replicate_succ, dot_cons, ih]; omega
theorem dot_set : ∀ (l w : List Int) (i : Nat) (x : Int), i < l.length → dot (l.set i x) w = dot l w + (x - l.getD i 0) * W w i
  | [], _, _, _, h => by simp at h
  | a :: l, [], i, x, _ => by rw [dot_nil, dot_nil]; simp [W]
  | a :: l, b :: w, 0, x, _ => by
    rw [List.set_cons_zero, dot_cons, dot_cons]
    simp [W, Int.sub_mul]
    omega
  | a :: l, b :: w, i + 1, x, h => by
    rw [List.set_cons_succ, dot_cons, dot_cons, dot_set l w i x (by simpa using h)]
    simp [W]
    omega
theorem getD_rep (j i : Nat) : (List.replicate j (0 : Int)).getD i 0 = 0 := by
  rw [List.getD_eq_getElem?_getD, List.getElem?_replicate]
  split <;> rfl
theorem getD_set {l : List Int} {i j : Nat} {x : Int} (h : i ≠ j) : (l.set i x).getD j 0 = l.getD j 0 := by
  rw [List.getD_eq_getElem?_getD, List.getD_eq_getElem?_getD, List.getElem?_set_ne h]
theorem dot_rowT {n : Nat} (hn : 1 ≤ n) {t : Int} (ht : 0 ≤ t ∧ t < n) (w : List Int) : dot (rowT n t) w = W w (2 ^ n - 1) - W w (2 ^ n - 1 - 2 ^ t.toNat) := by
  have p1 : 0 < 2 ^ n := two_ne n
  have p2 : 0 < 2 ^ t.toNat := two_ne _
  have p3 : 2 ^ t.toNat * 2 ≤ 2 ^ n := by
    rw [← Nat.pow_succ]
    exact Nat.pow_le_pow_right (by decide) (by omega)
  unfold rowT
  rw [dot_set _ _ _ _ (by simp; omega), dot_set _ _ _ _ (by simp; omega), dot_rep, getD_set (by omega), getD_rep, getD_rep]
  omega
theorem dot_rowB {n s : Nat} {t u : Int} (ht : 0 ≤ t) (hu : 0 ≤ u) (ne : t ≠ u) (h : s + 2 ^ t.toNat + 2 ^ u.toNat < 2 ^ n) (w : List Int) :
    dot (rowB n s t u) w = Gn w s t - Gn w (s + 2 ^ u.toNat) t := by
  have p2 : 0 < 2 ^ t.toNat := two_ne _
  have p3 : 0 < 2 ^ u.toNat := two_ne _
  have p4 : 2 ^ t.toNat ≠ 2 ^ u.toNat := fun z => by
    have := (Nat.pow_right_inj (by decide : 1 < 2)).mp z
    omega
  unfold rowB
  rw [dot_set _ _ _ _ (by simp; omega), dot_set _ _ _ _ (by simp; omega), dot_set _ _ _ _ (by simp; omega), dot_set _ _ _ _ (by simp; omega), dot_rep,
    getD_set (by omega), getD_set (by omega), getD_set (by omega), getD_set (by omega), getD_set (by omega), getD_set (by omega), getD_rep, getD_rep, getD_rep, getD_rep]
  have e : s + 2 ^ u.toNat + 2 ^ t.toNat = s + 2 ^ t.toNat + 2 ^ u.toNat := by omega
  unfold Gn
  rw [e]
  omega
theorem up_lot {n : Nat} (hn : n ≤ 5) : ∀ ls ∈ lotsI n, ∀ t ∈ restI n ls, numI ls = 2 ^ n - 1 - 2 ^ t.toNat ∨ ∃ u ∈ restI n ls, t ≠ u ∧ ∃ ks ∈ lotsI n, numI ks = numI ls + 2 ^ u.toNat ∧ t ∈ restI n ks := by
  have : n = 0 ∨ n = 1 ∨ n = 2 ∨ n = 3 ∨ n = 4 ∨ n = 5 := by omega
  rcases this with rfl | rfl | rfl | rfl | rfl | rfl <;> decide +kernel
theorem top_lot {n : Nat} (hn : n ≤ 5) : ∀ t ∈ rngI n, (0 ≤ t ∧ t < n) ∧ ∃ ls ∈ lotsI n, t ∈ restI n ls ∧ numI ls = 2 ^ n - 1 - 2 ^ t.toNat ∧ numI ls + 2 ^ t.toNat = 2 ^ n - 1 := by
  have : n = 0 ∨ n = 1 ∨ n = 2 ∨ n = 3 ∨ n = 4 ∨ n = 5 := by omega
  rcases this with rfl | rfl | rfl | rfl | rfl | rfl <;> decide +kernel
theorem rest_rng {n : Nat} {ls : List Int} {t : Int} (h : t ∈ restI n ls) : t ∈ rngI n := (List.mem_filter.mp h).1
theorem noBrk_iff {n : Nat} (hn : n ≤ 5) (w : List Int) : anyBrk n w = false ↔ ∀ ls ∈ lotsI n, ∀ t ∈ restI n ls, ∀ u ∈ restI n ls, t ≠ u → Gn w (numI ls + 2 ^ u.toNat) t ≤ Gn w (numI ls) t := by
  constructor
  · intro h ls hls t ht u hu ne
    have h1 : ((restI n ls).zipIdx.any fun q => ((restI n ls).drop (q.2 + 1)).any fun u => brk w (numI ls) q.1 u) = false := by
      have := List.any_eq_false.mp h ls hls
      simpa using this
    have h2 : ¬ ∃ i j : Nat, ∃ a b, i < j ∧ (restI n ls)[i]? = some a ∧ (restI n ls)[j]? = some b ∧ brk w (numI ls) a b = true := fun z => by
      rw [(drop_any (restI n ls) (fun a b => brk w (numI ls) a b)).mpr z] at h1
      cases h1
    obtain ⟨i, hi, ei⟩ := List.getElem_of_mem ht
    obtain ⟨j, hj, ej⟩ := List.getElem_of_mem hu
    have gi : (restI n ls)[i]? = some t := by rw [List.getElem?_eq_getElem hi, ei]
    have gj : (restI n ls)[j]? = some u := by rw [List.getElem?_eq_getElem hj, ej]
    have nb : brk w (numI ls) t u = false := by
      cases hb : brk w (numI ls) t u with
      | false => rfl
      | true =>
        rcases Nat.lt_trichotomy i j with z | z | z
        · exact absurd ⟨i, j, t, u, z, gi, gj, hb⟩ h2
        · subst z
          rw [gi] at gj
          exact absurd (Option.some.inj gj) ne
        · rw [brk_sym] at hb
          exact absurd ⟨j, i, u, t, z, gj, gi, hb⟩ h2
    have := of_decide_eq_false nb
    omega
  · intro h
    refine List.any_eq_false.mpr fun ls hls => ?_
    rw [drop_any (restI n ls) (fun a b => brk w (numI ls) a b)]
    rintro ⟨i, j, a, b, hij, h1, h2, hb⟩
    have ha := List.mem_of_getElem? h1
    have hb' := List.mem_of_getElem? h2
    have ne : a ≠ b := fun z => by
      subst z
      obtain ⟨i1, e1⟩ := List.getElem?_eq_some_iff.mp h1
      obtain ⟨j1, e2⟩ := List.getElem?_eq_some_iff.mp h2
      have := (List.getElem_inj (lots_ok hn ls hls).nd).mp (e1.trans e2.symm)
      omega
    have := h ls hls a ha b hb' ne
    have := of_decide_eq_true hb
    omega
theorem noFall_iff {n : Nat} (w : List Int) : anyFall n w = false ↔ ∀ ls ∈ lotsI n, ∀ t ∈ restI n ls, 0 ≤ Gn w (numI ls) t := by
  constructor
  · intro h ls hls t ht
    have h1 := List.any_eq_false.mp h ls hls
    have h1 : ((restI n ls).any fun t => decide (Gn w (numI ls) t < 0)) = false := by simpa using h1
    have := List.any_eq_false.mp h1 t ht
    simp at this
    exact this
  · intro h
    refine List.any_eq_false.mpr fun ls hls => ?_
    rw [List.any_eq_true]
    rintro ⟨t, ht, h2⟩
    have := h ls hls t ht
    have := of_decide_eq_true h2
    omega
theorem good_plain {n : Nat} (h1 : 1 ≤ n) (hn : n ≤ 5) (w : List Int) : ((plainI n).all fun row => decide (0 ≤ dot row w)) = (!anyFall n w && !anyBrk n w) := by
  have key : (∀ row ∈ plainI n, 0 ≤ dot row w) ↔ (anyFall n w = false ∧ anyBrk n w = false) := by
    constructor
    · intro h
      have hT : ∀ t ∈ rngI n, 0 ≤ Gn w (2 ^ n - 1 - 2 ^ t.toNat) t := fun t ht => by
        obtain ⟨hr, ls, hls, htr, e1, e2⟩ := top_lot hn t ht
        have := h (rowT n t) (List.mem_append_left _ (List.mem_map_of_mem ht))
        rw [dot_rowT h1 hr] at this
        unfold Gn
        rw [← e1, e2, e1]
        exact this
      have hB : ∀ ls ∈ lotsI n, ∀ t ∈ restI n ls, ∀ u ∈ restI n ls, t ≠ u → Gn w (numI ls + 2 ^ u.toNat) t ≤ Gn w (numI ls) t := by
        rw [← noBrk_iff hn]
        refine List.any_eq_false.mpr fun ls hls => ?_
        rw [drop_any (restI n ls) (fun a b => brk w (numI ls) a b)]
        rintro ⟨i, j, a, b, hij, g1, g2, hb⟩
        have ok := lots_ok hn ls hls
        have ha := List.mem_of_getElem? g1
        have hb' := List.mem_of_getElem? g2
        have ne : a ≠ b := fun z => by
          subst z
          obtain ⟨i1, e1⟩ := List.getElem?_eq_some_iff.mp g1
          obtain ⟨j1, e2⟩ := List.getElem?_eq_some_iff.mp g2
          have := (List.getElem_inj ok.nd).mp (e1.trans e2.symm)
          omega
        have tw := ok.two a ha b hb' ne
        have m1 : rowB n (numI ls) a b ∈ plainI n := List.mem_append_right _ (List.mem_flatMap.mpr ⟨ls, hls, List.mem_flatMap.mpr ⟨(a, i), List.mk_mem_zipIdx_iff_getElem?.mpr g1, List.mem_map.mpr ⟨b, by
          refine List.mem_of_getElem? (i := j - (i + 1)) ?_
          rw [List.getElem?_drop]
          have e : i + 1 + (j - (i + 1)) = j := by omega
          exact (congrArg (fun x => (restI n ls)[x]?) e).trans g2, rfl⟩⟩⟩)
        have := h _ m1
        rw [dot_rowB (ok.one a ha).1.1 (ok.one b hb').1.1 ne (by omega)] at this
        have := of_decide_eq_true hb
        omega
      refine ⟨(noFall_iff w).mpr ?_, (noBrk_iff hn w).mpr hB⟩
      have ind : ∀ (j : Nat) (ls : List Int), 2 ^ n - numI ls ≤ j → ls ∈ lotsI n → ∀ t ∈ restI n ls, 0 ≤ Gn w (numI ls) t := fun j => by
        induction j with
        | zero =>
          intro ls hj hls t ht
          have := (lots_ok hn ls hls).own
          omega
        | succ j ih =>
          intro ls hj hls t ht
          rcases up_lot hn ls hls t ht with z | ⟨u, hu, ne, ks, hks, ek, htk⟩
          · rw [z]
            exact hT t (rest_rng ht)
          · have p := two_ne u.toNat
            have o := (lots_ok hn ls hls).own
            have i1 := ih ks (by omega) hks t htk
            have i2 := hB ls hls t ht u hu ne
            rw [ek] at i1
            omega
      exact fun ls hls t ht => ind _ ls (Nat.le_refl _) hls t ht
    · rintro ⟨hF, hB⟩ row hr
      have hF := (noFall_iff w).mp hF
      have hB := (noBrk_iff hn w).mp hB
      rcases List.mem_append.mp hr with z | z
      · obtain ⟨t, ht, rfl⟩ := List.mem_map.mp z
        obtain ⟨hr, ls, hls, htr, e1, e2⟩ := top_lot hn t ht
        have := hF ls hls t htr
        rw [dot_rowT h1 hr]
        unfold Gn at this
        rw [e2, e1] at this
        exact this
      · obtain ⟨ls, hls, z⟩ := List.mem_flatMap.mp z
        obtain ⟨q, hq, z⟩ := List.mem_flatMap.mp z
        obtain ⟨u, hu, rfl⟩ := List.mem_map.mp z
        have ok := lots_ok hn ls hls
        have ha := (zip_mem hq).1
        obtain ⟨hb, ne⟩ := drop_ne ok.nd hq hu
        have tw := ok.two q.1 ha u hb ne
        rw [dot_rowB (ok.one _ ha).1.1 (ok.one u hb).1.1 ne (by omega)]
        have := hB ls hls q.1 ha u hb ne
        omega
  rw [Bool.eq_iff_iff, List.all_eq_true]
  simp only [decide_eq_true_eq, Bool.and_eq_true, Bool.not_eq_true']
  exact key
end L89

set_option linter.all false
set_option maxRecDepth 100000
set_option maxHeartbeats 4000000
namespace L89
open PySem Mi L2
/-! A12: rotations, sums kept. -/
def rot (n a : Nat) : List Int := (rngI n).drop a ++ (rngI n).take a
theorem rot_ord {n a : Nat} (h2 : 2 ≤ n) (h4 : n ≤ 4) (ha : a < n) : Ord n (rot n a) := by
  have key : ∀ n ∈ [2, 3, 4], ∀ a ∈ List.range n, (1 ≤ n ∧ n ≤ 5 ∧ (rot n a).length = n ∧ (∀ o ∈ rot n a, 0 ≤ o ∧ o < n) ∧ (nub (rot n a)).length = n) ∧ (∀ ls ∈ lotsI n, numI (ls.map (osf (rot n a))) < 2 ^ n) ∧ (∀ ls ∈ lotsI n, (∀ t ∈ ls, 0 ≤ t ∧ t < n) ∧ Th5 (ls.map (osf (rot n a))) ∧ ls.length ≤ 5) := by decide +kernel
  obtain ⟨⟨h1, h2, h3, h4, h5⟩, h6, h7⟩ := key n (by
    have : n = 2 ∨ n = 3 ∨ n = 4 := by omega
    rcases this with rfl | rfl | rfl <;> decide) a (List.mem_range.mpr ha)
  exact ⟨h1, h2, h3, h4, h5, h6, h7⟩
theorem l4 {l : List Int} (h : l.length = 2 ^ 2) : ∃ a b c d, l = [a, b, c, d] := by
  match l, h with
  | [a, b, c, d], _ => exact ⟨a, b, c, d, rfl⟩
theorem l8 {l : List Int} (h : l.length = 2 ^ 3) : ∃ a b c d e f g i, l = [a, b, c, d, e, f, g, i] := by
  match l, h with
  | [a, b, c, d, e, f, g, i], _ => exact ⟨a, b, c, d, e, f, g, i, rfl⟩
theorem l16 {l : List Int} (h : l.length = 2 ^ 4) : ∃ a b c d e f g i a2 b2 c2 d2 e2 f2 g2 i2, l = [a, b, c, d, e, f, g, i, a2, b2, c2, d2, e2, f2, g2, i2] := by
  match l, h with
  | [a, b, c, d, e, f, g, i, a2, b2, c2, d2, e2, f2, g2, i2], _ => exact ⟨a, b, c, d, e, f, g, i, a2, b2, c2, d2, e2, f2, g2, i2, rfl⟩
def idxs (n : Nat) (os : List Int) : List Nat := (lotsI n).map fun ls => numI (ls.map (osf os))
def setsN (N : Nat) (ix : List Nat) (l : List Int) : List Int := (ix.zip l).foldl (fun acc q => acc.set q.1 q.2) (List.replicate N 0)
theorem mvd_sets (n : Nat) (os l : List Int) : mvd n os l = setsN (2 ^ n) (idxs n os) l := by
  unfold mvd setsN idxs
  rw [List.zip_map_left, List.foldl_map]
  rfl
theorem mvd_perm {n a : Nat} (h2 : 2 ≤ n) (h4 : n ≤ 4) (ha : a < n) {l w : List Int} (hl : l.length = 2 ^ n) (hw : w.length = 2 ^ n) : dot (mvd n (rot n a) l) (mvd n (rot n a) w) = dot l w := by
  have : (n = 2 ∧ (a = 0 ∨ a = 1)) ∨ (n = 3 ∧ (a = 0 ∨ a = 1 ∨ a = 2)) ∨ (n = 4 ∧ (a = 0 ∨ a = 1 ∨ a = 2 ∨ a = 3)) := by omega
  rcases this with ⟨rfl, h⟩ | ⟨rfl, h⟩ | ⟨rfl, h⟩
  · obtain ⟨a1, a2, a3, a4, rfl⟩ := l4 hl
    obtain ⟨b1, b2, b3, b4, rfl⟩ := l4 hw
    rcases h with rfl | rfl
    · have e0 : idxs 2 (rot 2 0) = [0, 1, 2, 3] := by decide +kernel
      have e : ∀ x0 x1 x2 x3 : Int, mvd 2 (rot 2 0) [x0, x1, x2, x3] = [x0, x1, x2, x3] := fun _ _ _ _ => by rw [mvd_sets, e0]; rfl
      rw [e, e]
    · have e0 : idxs 2 (rot 2 1) = [0, 2, 1, 3] := by decide +kernel
      have e : ∀ x1 x2 x3 x4 : Int, mvd 2 (rot 2 1) [x1, x2, x3, x4] = [x1, x3, x2, x4] := fun _ _ _ _ => by rw [mvd_sets, e0]; rfl
      rw [e, e]
      simp only [dot, List.zip_cons_cons, List.map_cons, List.sum_cons, List.zip_nil_left, List.map_nil, List.sum_nil, Int.add_zero]
      ac_rfl
  · obtain ⟨a1, a2, a3, a4, a5, a6, a7, a8, rfl⟩ := l8 hl
    obtain ⟨b1, b2, b3, b4, b5, b6, b7, b8, rfl⟩ := l8 hw
    rcases h with rfl | rfl | rfl
    · have e0 : idxs 3 (rot 3 0) = [0, 1, 2, 3, 4, 5, 6, 7] := by decide +kernel
      have e : ∀ x0 x1 x2 x3 x4 x5 x6 x7 : Int, mvd 3 (rot 3 0) [x0, x1, x2, x3, x4, x5, x6, x7] = [x0, x1, x2, x3, x4, x5, x6, x7] := fun _ _ _ _ _ _ _ _ => by rw [mvd_sets, e0]; rfl
      rw [e, e]
    · have e0 : idxs 3 (rot 3 1) = [0, 2, 4, 6, 1, 3, 5, 7] := by decide +kernel
      have e : ∀ x0 x1 x2 x3 x4 x5 x6 x7 : Int, mvd 3 (rot 3 1) [x0, x1, x2, x3, x4, x5, x6, x7] = [x0, x4, x1, x5, x2, x6, x3, x7] := fun _ _ _ _ _ _ _ _ => by rw [mvd_sets, e0]; rfl
      rw [e, e]
      simp only [dot, List.zip_cons_cons, List.map_cons, List.sum_cons, List.zip_nil_left, List.map_nil, List.sum_nil, Int.add_zero]
      ac_rfl
    · have e0 : idxs 3 (rot 3 2) = [0, 4, 1, 5, 2, 6, 3, 7] := by decide +kernel
      have e : ∀ x0 x1 x2 x3 x4 x5 x6 x7 : Int, mvd 3 (rot 3 2) [x0, x1, x2, x3, x4, x5, x6, x7] = [x0, x2, x4, x6, x1, x3, x5, x7] := fun _ _ _ _ _ _ _ _ => by rw [mvd_sets, e0]; rfl
      rw [e, e]
      simp only [dot, List.zip_cons_cons, List.map_cons, List.sum_cons, List.zip_nil_left, List.map_nil, List.sum_nil, Int.add_zero]
      ac_rfl
  · obtain ⟨a0, a1, a2, a3, a4, a5, a6, a7, a8, a9, aa, ab, ac, ad, ae, af, rfl⟩ := l16 hl
    obtain ⟨b0, b1, b2, b3, b4, b5, b6, b7, b8, b9, ba, bb, bc, bd, be, bf, rfl⟩ := l16 hw
    rcases h with rfl | rfl | rfl | rfl
    · have e0 : idxs 4 (rot 4 0) = [0, 1, 2, 3, 4, 5, 6, 7, 8, 9, 10, 11, 12, 13, 14, 15] := by decide +kernel
      have e : ∀ x0 x1 x2 x3 x4 x5 x6 x7 x8 x9 x10 x11 x12 x13 x14 x15 : Int, mvd 4 (rot 4 0) [x0, x1, x2, x3, x4, x5, x6, x7, x8, x9, x10, x11, x12, x13, x14, x15] = [x0, x1, x2, x3, x4, x5, x6, x7, x8, x9, x10, x11, x12, x13, x14, x15] := fun _ _ _ _ _ _ _ _ _ _ _ _ _ _ _ _ => by rw [mvd_sets, e0]; rfl
      rw [e, e]
    · have e0 : idxs 4 (rot 4 1) = [0, 2, 4, 6, 8, 10, 12, 14, 1, 3, 5, 7, 9, 11, 13, 15] := by decide +kernel
      have e : ∀ x0 x1 x2 x3 x4 x5 x6 x7 x8 x9 x10 x11 x12 x13 x14 x15 : Int, mvd 4 (rot 4 1) [x0, x1, x2, x3, x4, x5, x6, x7, x8, x9, x10, x11, x12, x13, x14, x15] = [x0, x8, x1, x9, x2, x10, x3, x11, x4, x12, x5, x13, x6, x14, x7, x15] := fun _ _ _ _ _ _ _ _ _ _ _ _ _ _ _ _ => by rw [mvd_sets, e0]; rfl
      rw [e, e]
      simp only [dot, List.zip_cons_cons, List.map_cons, List.sum_cons, List.zip_nil_left, List.map_nil, List.sum_nil, Int.add_zero]
      ac_rfl
    · have e0 : idxs 4 (rot 4 2) = [0, 4, 8, 12, 1, 5, 9, 13, 2, 6, 10, 14, 3, 7, 11, 15] := by decide +kernel
      have e : ∀ x0 x1 x2 x3 x4 x5 x6 x7 x8 x9 x10 x11 x12 x13 x14 x15 : Int, mvd 4 (rot 4 2) [x0, x1, x2, x3, x4, x5, x6, x7, x8, x9, x10, x11, x12, x13, x14, x15] = [x0, x4, x8, x12, x1, x5, x9, x13, x2, x6, x10, x14, x3, x7, x11, x15] := fun _ _ _ _ _ _ _ _ _ _ _ _ _ _ _ _ => by rw [mvd_sets, e0]; rfl
      rw [e, e]
      simp only [dot, List.zip_cons_cons, List.map_cons, List.sum_cons, List.zip_nil_left, List.map_nil, List.sum_nil, Int.add_zero]
      ac_rfl
    · have e0 : idxs 4 (rot 4 3) = [0, 8, 1, 9, 2, 10, 3, 11, 4, 12, 5, 13, 6, 14, 7, 15] := by decide +kernel
      have e : ∀ x0 x1 x2 x3 x4 x5 x6 x7 x8 x9 x10 x11 x12 x13 x14 x15 : Int, mvd 4 (rot 4 3) [x0, x1, x2, x3, x4, x5, x6, x7, x8, x9, x10, x11, x12, x13, x14, x15] = [x0, x2, x4, x6, x8, x10, x12, x14, x1, x3, x5, x7, x9, x11, x13, x15] := fun _ _ _ _ _ _ _ _ _ _ _ _ _ _ _ _ => by rw [mvd_sets, e0]; rfl
      rw [e, e]
      simp only [dot, List.zip_cons_cons, List.map_cons, List.sum_cons, List.zip_nil_left, List.map_nil, List.sum_nil, Int.add_zero]
      ac_rfl
theorem mvd_mem {n : Nat} {os l : List Int} {b : Int} (hb : 0 ≤ b) (h : Bd b l) : Bd b (mvd n os l) := by
  have key : ∀ (qs : List (List Int × Int)) (acc : List Int), Bd b acc → (∀ q ∈ qs, -b ≤ q.2 ∧ q.2 ≤ b) → Bd b (qs.foldl (fun acc q => acc.set (numI (q.1.map (osf os))) q.2) acc) := fun qs => by
    induction qs with
    | nil => exact fun acc ha _ => ha
    | cons q qs ih =>
      intro acc ha hq
      refine ih _ (fun x hx => ?_) fun q' h' => hq q' (List.mem_cons_of_mem _ h')
      rcases List.mem_or_eq_of_mem_set hx with z | z
      · exact ha x z
      · rw [z]
        exact hq q List.mem_cons_self
  refine key _ _ (fun x hx => ?_) fun q hq => h _ (List.of_mem_zip (a := q.1) (b := q.2) hq).2
  have := List.eq_of_mem_replicate hx
  omega
theorem mvd_len {n : Nat} {os l : List Int} : (mvd n os l).length = 2 ^ n := by
  unfold mvd
  rw [fold_len, List.length_replicate]
end L89

set_option linter.all false
set_option maxRecDepth 100000
set_option maxHeartbeats 4000000
namespace L89
open PySem Mi L2
/-! A13: drawn tables that are less and less. -/
theorem ints_of {lo hi : Int} : ∀ {ys : List D}, (∀ y ∈ ys, ∃ c : Int, y = .int c ∧ lo ≤ c ∧ c ≤ hi) → ∃ cs : List Int, ys = cs.map D.int ∧ ∀ c ∈ cs, lo ≤ c ∧ c ≤ hi
  | [], _ => ⟨[], rfl, fun c h => by cases h⟩
  | y :: ys, h => by
    obtain ⟨c, rfl, h1, h2⟩ := h y List.mem_cons_self
    obtain ⟨cs, rfl, h3⟩ := ints_of fun y hy => h y (List.mem_cons_of_mem _ hy)
    refine ⟨c :: cs, rfl, fun d hd => ?_⟩
    rcases List.mem_cons.mp hd with rfl | hd
    · exact ⟨h1, h2⟩
    · exact h3 d hd
theorem lists_of {Q : List Int → Prop} : ∀ {ys : List D}, (∀ y ∈ ys, ∃ cs : List Int, y = .lst (cs.map D.int) ∧ Q cs) → ∃ css : List (List Int), ys = css.map (fun cs => .lst (cs.map D.int)) ∧ ∀ cs ∈ css, Q cs
  | [], _ => ⟨[], rfl, fun c h => by cases h⟩
  | y :: ys, h => by
    obtain ⟨c, rfl, h1⟩ := h y List.mem_cons_self
    obtain ⟨cs, rfl, h3⟩ := lists_of fun y hy => h y (List.mem_cons_of_mem _ hy)
    refine ⟨c :: cs, rfl, fun d hd => ?_⟩
    rcases List.mem_cons.mp hd with rfl | hd
    · exact h1
    · exact h3 d hd
theorem ways_of {Q : Int × Int × Int → Prop} : ∀ {ys : List D}, (∀ y ∈ ys, ∃ q : Int × Int × Int, y = .tup [.int q.1, .int q.2.1, .int q.2.2] ∧ Q q) → ∃ qs : List (Int × Int × Int), ys = qs.map (fun q => .tup [.int q.1, .int q.2.1, .int q.2.2]) ∧ ∀ q ∈ qs, Q q
  | [], _ => ⟨[], rfl, fun c h => by cases h⟩
  | y :: ys, h => by
    obtain ⟨c, rfl, h1⟩ := h y List.mem_cons_self
    obtain ⟨cs, rfl, h3⟩ := ways_of fun y hy => h y (List.mem_cons_of_mem _ hy)
    refine ⟨c :: cs, rfl, fun d hd => ?_⟩
    rcases List.mem_cons.mp hd with rfl | hd
    · exact h1
    · exact h3 d hd
theorem sum_bd {lo hi : Int} (l : List Int) (h : ∀ x ∈ l, lo ≤ x ∧ x ≤ hi) : lo * l.length ≤ l.sum ∧ l.sum ≤ hi * l.length := by
  induction l with
  | nil => simp
  | cons a r ih =>
    obtain ⟨h1, h2⟩ := h a List.mem_cons_self
    obtain ⟨h3, h4⟩ := ih fun x hx => h x (List.mem_cons_of_mem _ hx)
    rw [List.sum_cons, List.length_cons]
    have e1 : lo * ((r.length + 1 : Nat) : Int) = lo * r.length + lo := by rw [Int.natCast_add, Int.mul_add]; simp
    have e2 : hi * ((r.length + 1 : Nat) : Int) = hi * r.length + hi := by rw [Int.natCast_add, Int.mul_add]; simp
    omega
theorem mul_small {a b : Int} (h1 : -1000 ≤ a) (h2 : a ≤ 1000) (h3 : -1000 ≤ b) (h4 : b ≤ 1000) : binop .Mult (.int a) (.int b) = some (.int (a * b)) := mul_s (by omega) (by omega) (by omega) (by omega)
theorem getInt {l : List Int} {j : Nat} (h : j < l.length) : (l.map D.int)[j]? = some (.int l[j]) := by rw [List.getElem?_map, List.getElem?_eq_getElem h]; rfl
/-- the things of lots of n things -/
theorem lot_lt {n : Nat} (hn : n ≤ 5) : ∀ ls ∈ lotsI n, ls.length ≤ n ∧ ∀ t ∈ ls, 0 ≤ t ∧ t < n := by
  have : n = 0 ∨ n = 1 ∨ n = 2 ∨ n = 3 ∨ n = 4 ∨ n = 5 := by omega
  rcases this with rfl | rfl | rfl | rfl | rfl | rfl <;> decide +kernel
theorem draw_comp {k : Nat} (hk : 1 ≤ k) {L p : Nat} {m : Mu} (h : Pots PB L m) (hp : p < L) {own : List (Str × Nat)} {i a : Nat} {q o : Int} (hq : 1 ≤ q) (hq2 : q < 1000) {ik : IK} {its : Exs} {r : List Slot} {m1 : Mu} {ds xs : List D}
    (h1 : evx ⟨txt.consts, callF txt.fs txt.consts 1000 k⟩ its r m = .ok ds m1) (hm1 : Pots PB L m1) (h2 : itemsD ik ds = some xs) (hr : ∀ x, ((wipeS r (own.map (·.2))).set i (.val x))[a]? = some (.val (.ref p))) (h4 : xs.length ≤ 1000) :
    ∃ (cs : List Int) (m' : Mu), ev ⟨txt.consts, callF txt.fs txt.consts 1000 k⟩ (.comp own (.op .Sub (.call i__law_draw (.cons (.var a) (.cons (.cst (.int q)) .nil))) (.cst (.int o))) (.nm i) ik its) r m = .ok (.lst (cs.map D.int)) m' ∧ cs.length = xs.length ∧ (∀ c ∈ cs, -o ≤ c ∧ c ≤ q - 1 - o) ∧ Pots PB L m' := by
  obtain ⟨ys, m', e, hl, hy, hm⟩ := comp_inv (g := ⟨txt.consts, callF txt.fs txt.consts 1000 k⟩) (own := own) (elt := .op .Sub (.call i__law_draw (.cons (.var a) (.cons (.cst (.int q)) .nil))) (.cst (.int o))) (tg := .nm i) (ik := ik) (its := its) (r := r) (m := m) (fun m => Pots PB L m) (fun y => ∃ c : Int, y = .int c ∧ -o ≤ c ∧ c ≤ q - 1 - o) h1 h2 hm1 (fun x _ m hm => by
    obtain ⟨c, m', e, ⟨c1, c2⟩, h'⟩ := l_draw (k := k) hk hm hp hq (by omega)
    refine ⟨_, rfl, .int (c - o), m', ?_, ⟨c - o, rfl, by omega, by omega⟩, h'⟩
    rw [ev_op, ev_call, evs_cons, ev_var, hr x]
    simp [e]) (by omega)
  obtain ⟨cs, rfl, hc⟩ := ints_of hy
  exact ⟨cs, m', e, by simpa using hl, hc, hm⟩
theorem draw_comp0 {k : Nat} (hk : 1 ≤ k) {L p : Nat} {m : Mu} (h : Pots PB L m) (hp : p < L) {own : List (Str × Nat)} {i a : Nat} {q : Int} (hq : 1 ≤ q) (hq2 : q < 1000) {ik : IK} {its : Exs} {r : List Slot} {m1 : Mu} {ds xs : List D}
    (h1 : evx ⟨txt.consts, callF txt.fs txt.consts 1000 k⟩ its r m = .ok ds m1) (hm1 : Pots PB L m1) (h2 : itemsD ik ds = some xs) (hr : ∀ x, ((wipeS r (own.map (·.2))).set i (.val x))[a]? = some (.val (.ref p))) (h4 : xs.length ≤ 1000) :
    ∃ (cs : List Int) (m' : Mu), ev ⟨txt.consts, callF txt.fs txt.consts 1000 k⟩ (.comp own (.call i__law_draw (.cons (.var a) (.cons (.cst (.int q)) .nil))) (.nm i) ik its) r m = .ok (.lst (cs.map D.int)) m' ∧ cs.length = xs.length ∧ (∀ c ∈ cs, 0 ≤ c ∧ c ≤ q - 1) ∧ Pots PB L m' := by
  obtain ⟨ys, m', e, hl, hy, hm⟩ := comp_inv (g := ⟨txt.consts, callF txt.fs txt.consts 1000 k⟩) (own := own) (elt := (.call i__law_draw (.cons (.var a) (.cons (.cst (.int q)) .nil)))) (tg := .nm i) (ik := ik) (its := its) (r := r) (m := m) (fun m => Pots PB L m) (fun y => ∃ c : Int, y = .int c ∧ 0 ≤ c ∧ c ≤ q - 1) h1 h2 hm1 (fun x _ m hm => by
    obtain ⟨c, m', e, ⟨c1, c2⟩, h'⟩ := l_draw (k := k) hk hm hp hq (by omega)
    refine ⟨_, rfl, .int c, m', ?_, ⟨c, rfl, by omega, by omega⟩, h'⟩
    rw [ev_call, evs_cons, ev_var, hr x]
    simp [e]) (by omega)
  obtain ⟨cs, rfl, hc⟩ := ints_of hy
  exact ⟨cs, m', e, by simpa using hl, hc, hm⟩
theorem items_rngN {N : Nat} (h : N ≤ 1000) : itemsD .range1 [.int (N : Int)] = some ((List.range N).map fun (j : Nat) => D.int (j : Int)) := items_rng (by omega)
theorem lt_turn {k : Nat} (hk : 1 ≤ k) (m : Mu) {n : Nat} (h4 : n ≤ 4) {ls steps : List Int} (hls : ls ∈ lotsI n) {css : List (List Int)} {ws : List (Int × Int × Int)} {g c : Int} {v0 : Slot}
    (hst : steps.length = n) (hs : ∀ x ∈ steps, -4 ≤ x ∧ x ≤ 4) (hcs : css.length ≤ 3) (hc : ∀ cs ∈ css, cs.length = n) (hws : ws.length ≤ 4) (hw : ∀ q ∈ ws, 0 ≤ q.2.2 ∧ q.2.2 ≤ 3) (hg : -3 ≤ g ∧ g ≤ 3) (hcv : 0 ≤ c ∧ c ≤ 2)
    (acc : List Int) (ha : acc.length ≤ 100) (a5 a9 a10 a11 a12 a13 a14 a15 a16 : Slot) :
    ∃ (w : Int) (b9 : Slot), forB ⟨txt.consts, callF txt.fs txt.consts 1000 k⟩ 1000 (.nm 5) b__law_less_table_0 (lotD ls) [v0, .val (.int n), .val (.lst (css.map fun cs => .lst (cs.map D.int))), .val (.lst (ws.map fun q => .tup [.int q.1, .int q.2.1, .int q.2.2])), .own (acc.map .int), a5, .val (.lst (steps.map .int)), .val (.int g), .val (.int c), a9, a10, a11, a12, a13, a14, a15, a16] m
      = .nx [v0, .val (.int n), .val (.lst (css.map fun cs => .lst (cs.map D.int))), .val (.lst (ws.map fun q => .tup [.int q.1, .int q.2.1, .int q.2.2])), .own ((acc ++ [w]).map .int), .val (lotD ls), .val (.lst (steps.map .int)), .val (.int g), .val (.int c), b9, a10, a11, a12, a13, a14, a15, a16] m ∧ -51 ≤ w ∧ w ≤ 40 := by
  obtain ⟨hl, ht⟩ := lot_lt (n := n) (by omega) ls hls
  have c4 : ∀ a9 a10 a11 a12 a13 a14 a15 a16, ev ⟨txt.consts, callF txt.fs txt.consts 1000 k⟩ x__law_less_table_4 [v0, .val (.int n), .val (.lst (css.map fun cs => .lst (cs.map D.int))), .val (.lst (ws.map fun q => .tup [.int q.1, .int q.2.1, .int q.2.2])), .own (acc.map .int), .val (lotD ls), .val (.lst (steps.map .int)), .val (.int g), .val (.int c), a9, a10, a11, a12, a13, a14, a15, a16] m = .ok (.lst ((ls.map fun t => steps.getD t.toNat 0).map D.int)) m := fun a9 a10 a11 a12 a13 a14 a15 a16 => by
    rw [x__law_less_table_4, comp_map ls D.int (fun t => .int (steps.getD t.toNat 0)) (ds := [lotD ls]) (by simp) rfl (fun t h => ⟨_, rfl, by
      obtain ⟨j, rfl⟩ : ∃ j : Nat, t = j := ⟨t.toNat, by have := ht t h; omega⟩
      have hj : j < steps.length := by have := ht _ h; omega
      simp [idx_l, at_nat, getInt hj]
      simp [hj]⟩) (by omega), List.map_map]
    rfl
  have c5 : ∀ cs ∈ css, ∀ a9 a10 a11 a12 a14 a15 a16, ev ⟨txt.consts, callF txt.fs txt.consts 1000 k⟩ x__law_less_table_5 [v0, .val (.int n), .val (.lst (css.map fun cs => .lst (cs.map D.int))), .val (.lst (ws.map fun q => .tup [.int q.1, .int q.2.1, .int q.2.2])), .own (acc.map .int), .val (lotD ls), .val (.lst (steps.map .int)), .val (.int g), .val (.int c), a9, a10, a11, a12, .val (.lst (cs.map D.int)), a14, a15, a16] m = .ok (.lst ((ls.map fun t => decide (cs.getD t.toNat 0 = 1)).map D.bl)) m := fun cs hcs a9 a10 a11 a12 a14 a15 a16 => by
    rw [x__law_less_table_5, comp_map ls D.int (fun t => .bl (decide (cs.getD t.toNat 0 = 1))) (ds := [lotD ls]) (by simp) rfl (fun t h => ⟨_, rfl, by
      obtain ⟨j, rfl⟩ : ∃ j : Nat, t = j := ⟨t.toNat, by have := ht t h; omega⟩
      have hj : j < cs.length := by have := ht _ h; have := hc cs hcs; omega
      simp [idx_l, at_nat, getInt hj]
      simp [hj]⟩) (by omega), List.map_map]
    rfl
  have c6 : ∀ a9 a10 a11 a12 a13 a14 a15 a16, ev ⟨txt.consts, callF txt.fs txt.consts 1000 k⟩ x__law_less_table_6 [v0, .val (.int n), .val (.lst (css.map fun cs => .lst (cs.map D.int))), .val (.lst (ws.map fun q => .tup [.int q.1, .int q.2.1, .int q.2.2])), .own (acc.map .int), .val (lotD ls), .val (.lst (steps.map .int)), .val (.int g), .val (.int c), a9, a10, a11, a12, a13, a14, a15, a16] m = .ok (.lst (((css.filter fun cs => (ls.map fun t => decide (cs.getD t.toNat 0 = 1)).any id).map fun _ => 3).map D.int)) m := fun a9 a10 a11 a12 a13 a14 a15 a16 => by
    rw [x__law_less_table_6, comp_filter css (fun cs => .lst (cs.map D.int)) (fun _ => .int 3) (fun cs => (ls.map fun t => decide (cs.getD t.toNat 0 = 1)).any id) (ds := [.lst (css.map fun cs => .lst (cs.map D.int))]) (by simp) rfl (fun cs h => ⟨_, rfl, by
      rw [ev_b1, v_x__law_less_table_5]
      have := c5 cs h a9 a10 a11 a12 a14 a15 a16
      simp only [List.map_cons, List.map_nil, wipe_cons, wipe_nil, List.set_cons_succ, List.set_cons_zero]
      rw [this, bind_ok', any_bls, of_some], fun _ => by simp⟩) (by omega), List.map_map]
    rfl
  have c7 : ∀ a9 a10 a11 a12 a13 a14 a15 a16, ev ⟨txt.consts, callF txt.fs txt.consts 1000 k⟩ x__law_less_table_7 [v0, .val (.int n), .val (.lst (css.map fun cs => .lst (cs.map D.int))), .val (.lst (ws.map fun q => .tup [.int q.1, .int q.2.1, .int q.2.2])), .own (acc.map .int), .val (lotD ls), .val (.lst (steps.map .int)), .val (.int g), .val (.int c), a9, a10, a11, a12, a13, a14, a15, a16] m = .ok (.lst (((ws.filter fun q => ls.contains q.1 && !ls.contains q.2.1).map fun q => q.2.2).map D.int)) m := fun a9 a10 a11 a12 a13 a14 a15 a16 => by
    rw [x__law_less_table_7, comp_filter ws (fun q => .tup [.int q.1, .int q.2.1, .int q.2.2]) (fun q => .int q.2.2) (fun q => ls.contains q.1 && !ls.contains q.2.1) (ds := [.lst (ws.map fun q => .tup [.int q.1, .int q.2.1, .int q.2.2])]) (by simp) rfl (fun q h => ⟨_, rfl, by
      simp
      cases hb : decide (q.1 ∈ ls) <;> simp_all, fun _ => by simp⟩) (by omega), List.map_map]
    rfl
  have s4 := sum_bd (lo := -4) (hi := 4) (ls.map fun t => steps.getD t.toNat 0) (fun x hx => by
    obtain ⟨t, h, rfl⟩ := List.mem_map.mp hx
    have := ht t h
    have hj : t.toNat < steps.length := by omega
    rw [List.getD_eq_getElem?_getD, List.getElem?_eq_getElem hj]
    exact hs _ (List.getElem_mem hj))
  have s6 := sum_bd (lo := 3) (hi := 3) ((css.filter fun cs => (ls.map fun t => decide (cs.getD t.toNat 0 = 1)).any id).map fun _ => 3) (fun x hx => by
    obtain ⟨t, h, rfl⟩ := List.mem_map.mp hx
    exact ⟨Int.le_refl _, Int.le_refl _⟩)
  have s7 := sum_bd (lo := 0) (hi := 3) ((ws.filter fun q => ls.contains q.1 && !ls.contains q.2.1).map fun q => q.2.2) (fun x hx => by
    obtain ⟨t, h, rfl⟩ := List.mem_map.mp hx
    exact hw t (List.mem_filter.mp h).1)
  have f6 := List.length_filter_le (fun cs : List Int => (ls.map fun t => decide (cs.getD t.toNat 0 = 1)).any id) css
  have f7 := List.length_filter_le (fun q : Int × Int × Int => ls.contains q.1 && !ls.contains q.2.1) ws
  rw [List.length_map] at s4 s6 s7
  generalize (ls.map fun t => steps.getD t.toNat 0) = l4 at c4 s4
  generalize ((css.filter fun cs => (ls.map fun t => decide (cs.getD t.toNat 0 = 1)).any id).map fun _ => (3 : Int)) = l6 at c6 s6
  generalize ((ws.filter fun q => ls.contains q.1 && !ls.contains q.2.1).map fun q => q.2.2) = l7 at c7 s7
  have cc : 0 ≤ c * ls.length * ls.length ∧ c * ls.length * ls.length ≤ 32 := by
    have e1 : ls.length = 0 ∨ ls.length = 1 ∨ ls.length = 2 ∨ ls.length = 3 ∨ ls.length = 4 := by omega
    have e2 : c = 0 ∨ c = 1 ∨ c = 2 := by omega
    rcases e1 with e1 | e1 | e1 | e1 | e1 <;> rcases e2 with rfl | rfl | rfl <;> rw [e1] <;> decide
  have m1 := mul_small (a := c) (b := ls.length) (by omega) (by omega) (by omega) (by omega)
  have cl : 0 ≤ c * ls.length ∧ c * ls.length ≤ 8 := by
    have e1 : ls.length = 0 ∨ ls.length = 1 ∨ ls.length = 2 ∨ ls.length = 3 ∨ ls.length = 4 := by omega
    have e2 : c = 0 ∨ c = 1 ∨ c = 2 := by omega
    rcases e1 with e1 | e1 | e1 | e1 | e1 <;> rcases e2 with rfl | rfl | rfl <;> rw [e1] <;> decide
  have m2 := mul_small (a := c * ls.length) (b := ls.length) (by omega) (by omega) (by omega) (by omega)
  refine ⟨g + l4.sum - c * ls.length * ls.length + l6.sum + l7.sum, .val (.int (g + l4.sum - c * ls.length * ls.length + l6.sum)), ?_, ?_, ?_⟩
  · simp [forB, b__law_less_table_0, c4, c6, c7, m1, m2, fit]
    omega
  · omega
  · omega
/-- the loop over lots -/
theorem lt_loop {k : Nat} (hk : 1 ≤ k) (m : Mu) {n : Nat} (h4 : n ≤ 4) {steps : List Int} {css : List (List Int)} {ws : List (Int × Int × Int)} {g c : Int} {v0 : Slot}
    (hst : steps.length = n) (hs : ∀ x ∈ steps, -4 ≤ x ∧ x ≤ 4) (hcs : css.length ≤ 3) (hc : ∀ cs ∈ css, cs.length = n) (hws : ws.length ≤ 4) (hw : ∀ q ∈ ws, 0 ≤ q.2.2 ∧ q.2.2 ≤ 3) (hg : -3 ≤ g ∧ g ≤ 3) (hcv : 0 ≤ c ∧ c ≤ 2)
    (a10 a11 a12 a13 a14 a15 a16 : Slot) :
    ∃ (us : List Int) (b5 b9 : Slot), forR (forB ⟨txt.consts, callF txt.fs txt.consts 1000 k⟩ 1000 (.nm 5) b__law_less_table_0) ((lotsI n).map lotD) [v0, .val (.int n), .val (.lst (css.map fun cs => .lst (cs.map D.int))), .val (.lst (ws.map fun q => .tup [.int q.1, .int q.2.1, .int q.2.2])), .own [], .un, .val (.lst (steps.map .int)), .val (.int g), .val (.int c), .un, a10, a11, a12, a13, a14, a15, a16] m
      = .nx [v0, .val (.int n), .val (.lst (css.map fun cs => .lst (cs.map D.int))), .val (.lst (ws.map fun q => .tup [.int q.1, .int q.2.1, .int q.2.2])), .own (us.map .int), b5, .val (.lst (steps.map .int)), .val (.int g), .val (.int c), b9, a10, a11, a12, a13, a14, a15, a16] m ∧ us.length = (lotsI n).length ∧ ∀ w ∈ us, -51 ≤ w ∧ w ≤ 40 := by
  have l32 := len32 (n := n) (by omega)
  have ll := lots_len n
  obtain ⟨r', m', e, rfl, us, b5, b9, rfl, h1, h2⟩ := for_run (f := forB ⟨txt.consts, callF txt.fs txt.consts 1000 k⟩ 1000 (.nm 5) b__law_less_table_0) (e := lotD)
    (fun done r m' => m' = m ∧ ∃ (us : List Int) (b5 b9 : Slot), r = [v0, .val (.int n), .val (.lst (css.map fun cs => .lst (cs.map D.int))), .val (.lst (ws.map fun q => .tup [.int q.1, .int q.2.1, .int q.2.2])), .own (us.map .int), b5, .val (.lst (steps.map .int)), .val (.int g), .val (.int c), b9, a10, a11, a12, a13, a14, a15, a16] ∧ us.length = done.length ∧ ∀ w ∈ us, -51 ≤ w ∧ w ≤ 40) (lotsI n) []
    [v0, .val (.int n), .val (.lst (css.map fun cs => .lst (cs.map D.int))), .val (.lst (ws.map fun q => .tup [.int q.1, .int q.2.1, .int q.2.2])), .own [], .un, .val (.lst (steps.map .int)), .val (.int g), .val (.int c), .un, a10, a11, a12, a13, a14, a15, a16] m ⟨rfl, [], _, _, rfl, rfl, fun w h => by cases h⟩ (by
    rintro d a rest r m' hd ⟨rfl, us, b5, b9, rfl, h1, h2⟩
    have hd : lotsI n = d ++ a :: rest := hd
    have dl : d.length ≤ 32 := by
      have := congrArg List.length hd
      rw [List.length_append, List.length_cons, ll] at this
      omega
    obtain ⟨w, b, e, w1, w2⟩ := lt_turn hk m' h4 (ls := a) (by rw [hd]; simp) hst hs hcs hc hws hw hg hcv us (by omega) b5 b9 a10 a11 a12 a13 a14 a15 a16 (v0 := v0)
    refine ⟨_, _, e, rfl, us ++ [w], _, _, rfl, by rw [List.length_append, List.length_append, h1]; rfl, fun x hx => ?_⟩
    rcases List.mem_append.mp hx with z | z
    · exact h2 x z
    · rw [List.mem_singleton.mp z]
      exact ⟨w1, w2⟩)
  exact ⟨us, b5, b9, e, by simpa using h1, h2⟩
theorem l_less_table {k : Nat} (hk : 2 ≤ k) {L p : Nat} {m : Mu} (h : Pots PB L m) (hp : p < L) {n : Nat} (h2 : 2 ≤ n) (h4 : n ≤ 4) :
    ∃ ws m', callF txt.fs txt.consts 1000 k i__law_less_table [.ref p, .int n] m = .ok (tabD n true ws) m' ∧ ws.length = 2 ^ n ∧ (∀ w ∈ ws, -51 ≤ w ∧ w ≤ 40) ∧ Pots PB L m' := by
  rw [cl_u (by omega) h__law_less_table rfl]
  have hk' : 1 ≤ k - 1 := by omega
  -- covers
  obtain ⟨c1, m1, e1, ⟨q1, q2⟩, p1⟩ := l_draw (k := k - 1) hk' h hp (many := 4) (by decide) (by decide)
  obtain ⟨N, rfl⟩ : ∃ N : Nat, c1 = N := ⟨c1.toNat, by omega⟩
  obtain ⟨ys, m2, e2, hl2, hy2, p2⟩ := comp_inv (g := ⟨txt.consts, callF txt.fs txt.consts 1000 (k - 1)⟩) (own := [(Str.ofString "point", 10)]) (elt := x__law_less_table_0) (tg := .nm 10) (ik := .range1) (its := (.cons (.call i__law_draw (.cons (.var 0) (.cons (.cst (.int 4)) .nil))) .nil)) (r := [.val (.ref p), .val (.int n), .un, .un, .un, .un, .un, .un, .un, .un, .un, .un, .un, .un, .un, .un, .un]) (m := m) (fun m => Pots PB L m) (fun y => ∃ cs : List Int, y = .lst (cs.map D.int) ∧ cs.length = n)
    (by simp [e1]; rfl) (items_rngN (by omega)) p1 (fun x hx m hm => by
      obtain ⟨cs, m', e, hl, _, h'⟩ := draw_comp0 (k := k - 1) hk' hm hp (own := [(Str.ofString "thing", 12)]) (i := 12) (a := 0) (q := 2) (by decide) (by decide) (ik := .range1) (its := .cons (.var 1) .nil) (r := [.val (.ref p), .val (.int n), .un, .un, .un, .un, .un, .un, .un, .un, .val x, .un, .un, .un, .un, .un, .un]) (m1 := m) (ds := [.int n]) (by simp) hm (items_rngN (by omega)) (fun _ => rfl) (by simp; omega)
      exact ⟨_, rfl, _, m', e, ⟨cs, rfl, by simpa using hl⟩, h'⟩) (by simp; omega)
  obtain ⟨css, rfl, hcss⟩ := lists_of (Q := fun cs => cs.length = n) hy2
  have hlc : css.length ≤ 3 := by
    simp at hl2
    omega
  -- ways
  obtain ⟨c3, m3, e3, ⟨q3, q4⟩, p3⟩ := l_draw (k := k - 1) hk' p2 hp (many := 5) (by decide) (by decide)
  obtain ⟨M, rfl⟩ : ∃ N : Nat, c3 = N := ⟨c3.toNat, by omega⟩
  obtain ⟨ys, m4, e4, hl4, hy4, p4⟩ := comp_inv (g := ⟨txt.consts, callF txt.fs txt.consts 1000 (k - 1)⟩) (own := [(Str.ofString "turn", 11)]) (elt := (.tup (.cons (.call i__law_draw (.cons (.var 0) (.cons (.var 1) .nil))) (.cons (.call i__law_draw (.cons (.var 0) (.cons (.var 1) .nil))) (.cons (.call i__law_draw (.cons (.var 0) (.cons (.cst (.int 4)) .nil))) .nil))))) (tg := .nm 11) (ik := .range1) (its := (.cons (.call i__law_draw (.cons (.var 0) (.cons (.cst (.int 5)) .nil))) .nil)) (r := [.val (.ref p), .val (.int n), .val (.lst (css.map fun cs => .lst (cs.map D.int))), .un, .un, .un, .un, .un, .un, .un, .un, .un, .un, .un, .un, .un, .un]) (m := m2) (fun m => Pots PB L m) (fun y => ∃ q : Int × Int × Int, y = .tup [.int q.1, .int q.2.1, .int q.2.2] ∧ (0 ≤ q.2.2 ∧ q.2.2 ≤ 3))
    (by simp [e3]; rfl) (items_rngN (by omega)) p3 (fun x hx m hm => by
      obtain ⟨d1, n1, f1, _, g1⟩ := l_draw (k := k - 1) hk' hm hp (many := n) (by omega) (by omega)
      obtain ⟨d2, n2, f2, _, g2⟩ := l_draw (k := k - 1) hk' g1 hp (many := n) (by omega) (by omega)
      obtain ⟨d3, n3, f3, ⟨r1, r2⟩, g3⟩ := l_draw (k := k - 1) hk' g2 hp (many := 4) (by omega) (by omega)
      exact ⟨_, rfl, _, n3, by simp [f1, f2, f3], ⟨(d1, d2, d3), rfl, r1, by show d3 ≤ 3; omega⟩, g3⟩) (by simp; omega)
  obtain ⟨ws, rfl, hws⟩ := ways_of (Q := fun q => 0 ≤ q.2.2 ∧ q.2.2 ≤ 3) hy4
  have hlw : ws.length ≤ 4 := by
    simp at hl4
    omega
  -- steps, ground, curve
  obtain ⟨steps, m5, e5, hl5, hs5, p5⟩ := draw_comp (k := k - 1) hk' p4 hp (own := [(Str.ofString "thing", 12)]) (i := 12) (a := 0) (q := 9) (o := 4) (by decide) (by decide) (ik := .range1) (its := .cons (.var 1) .nil) (r := [.val (.ref p), .val (.int n), .val (.lst (css.map fun cs => .lst (cs.map D.int))), .val (.lst (ws.map fun q => .tup [.int q.1, .int q.2.1, .int q.2.2])), .un, .un, .un, .un, .un, .un, .un, .un, .un, .un, .un, .un, .un]) (m1 := m4) (ds := [.int n]) (by simp) p4 (items_rngN (by omega)) (fun _ => rfl) (by simp; omega)
  obtain ⟨c6, m6, e6, ⟨q5, q6⟩, p6⟩ := l_draw (k := k - 1) hk' p5 hp (many := 7) (by decide) (by decide)
  obtain ⟨c7, m7, e7, ⟨q7, q8⟩, p7⟩ := l_draw (k := k - 1) hk' p6 hp (many := 3) (by decide) (by decide)
  have hst : steps.length = n := by simpa using hl5
  obtain ⟨us, b5, b9, e8, h8, h9⟩ := lt_loop (k := k - 1) hk' m7 h4 (v0 := .val (.ref p)) hst (fun x hx => by have := hs5 x hx; omega) hlc hcss hlw hws (g := c6 - 3) (c := c7) (by omega) (by omega) .un .un .un .un .un .un .un
  have ll := l_lots (k := k - 1) hk' m7 (n := n) (by omega)
  refine ⟨us, m7, ?_, by rw [h8, lots_len], h9, p7⟩
  have e2' : ev ⟨txt.consts, callF txt.fs txt.consts 1000 (k - 1)⟩ x__law_less_table_1 _ m = _ := e2
  have e4' : ev ⟨txt.consts, callF txt.fs txt.consts 1000 (k - 1)⟩ x__law_less_table_2 _ m2 = _ := e4
  have e5' : ev ⟨txt.consts, callF txt.fs txt.consts 1000 (k - 1)⟩ x__law_less_table_3 _ m4 = _ := e5
  simp [f__law_less_table, t__law_less_table_0, startS, e2']
  rw [t__law_less_table_1, ss_cons, s_set, e4', st_ok', thenS_nx, t__law_less_table_2, ss_cons, s_par]
  simp only [List.set_cons_succ, List.set_cons_zero, evs_cons, evs_nil, e5', bind_ok', ev_op, ev_call, ev_var, ev_cst, List.getElem?_cons_zero, List.getElem?_cons_succ, vx_call, vx_cst, cD_int, e6, e7, sub_int, of_some, st_ok', List.length_cons, List.length_nil, if_true, setAll, ownAll, List.zip_cons_cons, List.zip_nil_left, List.foldl_cons, List.foldl_nil, thenS_nx]
  rw [t__law_less_table_3, ss_cons, s_seto, ev_lst, evs_nil, bind_ok', st_ok']
  simp only [List.set_cons_succ, List.set_cons_zero, thenS_nx]
  rw [t__law_less_table_4, ss_cons, s_for]
  simp only [evs_cons, evs_nil, ev_call, ev_var, List.getElem?_cons_zero, List.getElem?_cons_succ, bind_ok', ll, st_ok', items_seqL, goFor_some]
  rw [e8]
  simp [t__law_less_table_5, t__law_less_table_6, tabD, seqD]
end L89

set_option linter.all false
set_option maxRecDepth 100000
set_option maxHeartbeats 4000000
namespace L89
open PySem Mi L2
/-! A14: a drawn saying. -/
theorem plain_rows {n : Nat} (h2 : 2 ≤ n) (h4 : n ≤ 4) : plainI n ≠ [] ∧ (plainI n).length ≤ 100 ∧ ∀ row ∈ plainI n, row.length = 2 ^ n ∧ ∀ x ∈ row, -1 ≤ x ∧ x ≤ 1 := by
  have : n = 2 ∨ n = 3 ∨ n = 4 := by omega
  rcases this with rfl | rfl | rfl <;> decide +kernel
theorem add_len {l k : List Int} {N : Nat} (h1 : l.length = N) (h2 : k.length = N) : (addL l k).length = N := by
  unfold addL
  rw [List.length_map, List.length_zip, h1, h2, Nat.min_self]
theorem add_bd {l k : List Int} {a b : Int} (h1 : Bd a l) (h2 : Bd b k) : Bd (a + b) (addL l k) := fun x hx => by
  obtain ⟨q, hq, rfl⟩ := List.mem_map.mp hx
  have hq := List.of_mem_zip (a := q.1) (b := q.2) hq
  have := h1 _ hq.1
  have := h2 _ hq.2
  omega
theorem sa_turn {k : Nat} (hk : 2 ≤ k) {L p n : Nat} {m : Mu} (h : Pots PB L m) (hp : p < L) (h2 : 2 ≤ n) (h4 : n ≤ 4) {xs : List Int} (hx : xs.length = 2 ^ n) (x : D) (a3 a5 a6 a7 a8 a9 : Slot) :
    ∃ (row : List Int) (m' : Mu), forB ⟨txt.consts, callF txt.fs txt.consts 1000 k⟩ 1000 (.nm 3) b__law_saying_0 x [.val (.ref p), .val (.int n), .own (xs.map .int), a3, .val (.lst ((plainI n).map (tabD n true))), a5, a6, a7, a8, a9] m
      = .nx [.val (.ref p), .val (.int n), .own ((addL xs row).map .int), .val x, .val (.lst ((plainI n).map (tabD n true))), a5, a6, a7, a8, a9] m' ∧ row.length = 2 ^ n ∧ Bd 1 row ∧ Pots PB L m' := by
  obtain ⟨p1, p2, p3⟩ := plain_rows h2 h4
  obtain ⟨d, m', e, hd, h'⟩ := l_pick (k := k) hk h hp (xs := (plainI n).map (tabD n true)) (by simpa using p1) (by simp; omega)
  obtain ⟨row, hr, rfl⟩ := List.mem_map.mp hd
  obtain ⟨r1, r2⟩ := p3 row hr
  refine ⟨row, m', ?_, r1, r2, h'⟩
  have l32 := len32 (n := n) (by omega)
  have c : ev ⟨txt.consts, callF txt.fs txt.consts 1000 k⟩ x__law_saying_1 [.val (.ref p), .val (.int n), .own (xs.map .int), .val x, .val (.lst ((plainI n).map (tabD n true))), a5, a6, a7, a8, a9] m = .ok (.lst ((addL xs row).map D.int)) m' := by
    rw [x__law_saying_1, add_compW (m1 := m') (l := xs) (k := row) (fun d e => ⟨_, rfl, rfl, rfl⟩) (by
      simp only [evx_cons, evx_nil]
      simp only [ss_cons, ss_nil, s_set, s_seto, s_par, s_unp, s_app, s_setr, s_setrp, s_ext, s_seti, s_drop, s_cond, s_for, s_ret, s_retN, s_frz, thenS_nx, thenS_rt, endF_rt, endF_nx, bind_ok', st_ok', asB_ok, of_some, List.set_cons_succ, List.set_cons_zero, List.getElem?_cons_zero, List.getElem?_cons_succ, List.length_cons, List.length_nil, if_true, setAll, ownAll, List.zip_cons_cons, List.zip_nil_left, List.zip_nil_right, List.foldl_cons, List.foldl_nil, Bool.false_eq_true, if_false, reduceIte, ev_cst, ev_var, ev_tup, ev_lst, ev_op, ev_neg, ev_cmp, ev_cmp2, ev_and, ev_or, ev_not, ev_ite, ev_call, ev_b1, ev_b2, ev_isa, ev_m1, ev_idx, ev_slB, ev_slL, ev_slH, ev_dic0, ev_sp, evs_nil, evs_cons, evAnd_one, evAnd_cons, evOr_one, evOr_cons, vx_view, vx_cst, vx_var, vx_glb, vx_tup, vx_lst, vx_op, vx_neg, vx_not, vx_cmp, vx_and, vx_ite, vx_call, vx_callk, vx_b1, vx_b2, vx_m1, vx_idx, vx_slB, vx_slL, vx_slH, vx_dic0, vx_sp, vx_cmp2, vx_isa, vx_or, cD_int, cD_str, cD_bl, cD_non, le_int, lt_int', gt_int', ge_int', is_non, isnt_non, eq_cmp, ne_cmp, in_cmp, nin_cmp, eqD_int, eqD_str, eqD_bl, add_int, sub_int, len_lst, len_tup, tup_lst, tup_tup, abs_int, int_int, goFor_some, items_seqL, items_seqT, Option.map_some, Bool.not_true, Bool.not_false, decide_true, decide_false, e, idx1_tab, seqD]) (by rw [hx]; omega)]
  unfold forB b__law_saying_0
  simp only [bind_nm]
  simp only [ss_cons, ss_nil, s_set, s_seto, s_par, s_unp, s_app, s_setr, s_setrp, s_ext, s_seti, s_drop, s_cond, s_for, s_ret, s_retN, s_frz, thenS_nx, thenS_rt, endF_rt, endF_nx, bind_ok', st_ok', asB_ok, of_some, List.set_cons_succ, List.set_cons_zero, List.getElem?_cons_zero, List.getElem?_cons_succ, List.length_cons, List.length_nil, if_true, setAll, ownAll, List.zip_cons_cons, List.zip_nil_left, List.zip_nil_right, List.foldl_cons, List.foldl_nil, Bool.false_eq_true, if_false, reduceIte, ev_cst, ev_var, ev_tup, ev_lst, ev_op, ev_neg, ev_cmp, ev_cmp2, ev_and, ev_or, ev_not, ev_ite, ev_call, ev_b1, ev_b2, ev_isa, ev_m1, ev_idx, ev_slB, ev_slL, ev_slH, ev_dic0, ev_sp, evs_nil, evs_cons, evAnd_one, evAnd_cons, evOr_one, evOr_cons, vx_view, vx_cst, vx_var, vx_glb, vx_tup, vx_lst, vx_op, vx_neg, vx_not, vx_cmp, vx_and, vx_ite, vx_call, vx_callk, vx_b1, vx_b2, vx_m1, vx_idx, vx_slB, vx_slL, vx_slH, vx_dic0, vx_sp, vx_cmp2, vx_isa, vx_or, cD_int, cD_str, cD_bl, cD_non, le_int, lt_int', gt_int', ge_int', is_non, isnt_non, eq_cmp, ne_cmp, in_cmp, nin_cmp, eqD_int, eqD_str, eqD_bl, add_int, sub_int, len_lst, len_tup, tup_lst, tup_tup, abs_int, int_int, goFor_some, items_seqL, items_seqT, Option.map_some, Bool.not_true, Bool.not_false, decide_true, decide_false, c]
theorem Bd0 {b : Int} (h : 0 ≤ b) (j : Nat) : Bd b (List.replicate j 0) := fun x hx => by
  have := List.eq_of_mem_replicate hx
  omega
theorem l_saying {k : Nat} (hk : 5 ≤ k) {L p n : Nat} {m : Mu} (h : Pots PB L m) (hp : p < L) (h2 : 2 ≤ n) (h4 : n ≤ 4) :
    ∃ (xs : List Int) (m' : Mu), callF txt.fs txt.consts 1000 k i__law_saying [.ref p, .int n] m = .ok (tabD n true xs) m' ∧ xs.length = 2 ^ n ∧ Bd 6 xs ∧ Pots PB L m' := by
  rw [cl_u (by omega) h__law_saying rfl]
  have l32 := len32 (n := n) (by omega)
  have ll := l_plain (k := k - 1) (by omega) m h2 h4
  obtain ⟨way, m1, e1, ⟨w0, w5⟩, p1⟩ := l_draw (k := k - 1) (by omega) h hp (many := 5) (by decide) (by decide)
  have lo := l_lots (k := k - 1) (by omega) m1 (n := n) (by omega)
  by_cases hw : way = 0
  · obtain ⟨cs, m2, e2, hl, hc, p2⟩ := draw_comp (k := k - 1) (by omega) p1 hp (own := [(Str.ofString "lot", 7)]) (i := 7) (a := 0) (q := 5) (o := 2) (by decide) (by decide) (ik := .seq) (its := (.cons (.call i__law_lots (.cons (.var 1) .nil)) .nil)) (r := [.val (.ref p), .val (.int n), .un, .un, .val (.lst ((plainI n).map (tabD n true))), .val (.int way), .un, .un, .un, .un]) (m1 := m1) (ds := [.lst ((lotsI n).map lotD)]) (by simp [lo]) p1 (items_seqL _) (fun _ => rfl) (by rw [List.length_map, lots_len]; omega)
    have e2' : ev ⟨txt.consts, callF txt.fs txt.consts 1000 (k - 1)⟩ x__law_saying_0 _ m1 = _ := e2
    refine ⟨cs, m2, ?_, by rw [hl, List.length_map, lots_len], fun x hx => by have := hc x hx; omega, p2⟩
    simp only [f__law_saying, startS, List.map_cons, List.map_nil, List.cons_append, List.nil_append, List.replicate]
    rw [t__law_saying_0]
    simp only [ss_cons, ss_nil, s_set, s_seto, s_par, s_unp, s_app, s_setr, s_setrp, s_ext, s_seti, s_drop, s_cond, s_for, s_ret, s_retN, s_frz, thenS_nx, thenS_rt, endF_rt, endF_nx, bind_ok', st_ok', asB_ok, of_some, List.set_cons_succ, List.set_cons_zero, List.getElem?_cons_zero, List.getElem?_cons_succ, List.length_cons, List.length_nil, if_true, setAll, ownAll, List.zip_cons_cons, List.zip_nil_left, List.zip_nil_right, List.foldl_cons, List.foldl_nil, Bool.false_eq_true, if_false, reduceIte, ev_cst, ev_var, ev_tup, ev_lst, ev_op, ev_neg, ev_cmp, ev_cmp2, ev_and, ev_or, ev_not, ev_ite, ev_call, ev_b1, ev_b2, ev_isa, ev_m1, ev_idx, ev_slB, ev_slL, ev_slH, ev_dic0, ev_sp, evs_nil, evs_cons, evAnd_one, evAnd_cons, evOr_one, evOr_cons, vx_view, vx_cst, vx_var, vx_glb, vx_tup, vx_lst, vx_op, vx_neg, vx_not, vx_cmp, vx_and, vx_ite, vx_call, vx_callk, vx_b1, vx_b2, vx_m1, vx_idx, vx_slB, vx_slL, vx_slH, vx_dic0, vx_sp, vx_cmp2, vx_isa, vx_or, cD_int, cD_str, cD_bl, cD_non, le_int, lt_int', gt_int', ge_int', is_non, isnt_non, eq_cmp, ne_cmp, in_cmp, nin_cmp, eqD_int, eqD_str, eqD_bl, add_int, sub_int, len_lst, len_tup, tup_lst, tup_tup, abs_int, int_int, goFor_some, items_seqL, items_seqT, Option.map_some, Bool.not_true, Bool.not_false, decide_true, decide_false, ll, e1]
    rw [t__law_saying_1]
    simp only [ss_cons, ss_nil, s_set, s_seto, s_par, s_unp, s_app, s_setr, s_setrp, s_ext, s_seti, s_drop, s_cond, s_for, s_ret, s_retN, s_frz, thenS_nx, thenS_rt, endF_rt, endF_nx, bind_ok', st_ok', asB_ok, of_some, List.set_cons_succ, List.set_cons_zero, List.getElem?_cons_zero, List.getElem?_cons_succ, List.length_cons, List.length_nil, if_true, setAll, ownAll, List.zip_cons_cons, List.zip_nil_left, List.zip_nil_right, List.foldl_cons, List.foldl_nil, Bool.false_eq_true, if_false, reduceIte, ev_cst, ev_var, ev_tup, ev_lst, ev_op, ev_neg, ev_cmp, ev_cmp2, ev_and, ev_or, ev_not, ev_ite, ev_call, ev_b1, ev_b2, ev_isa, ev_m1, ev_idx, ev_slB, ev_slL, ev_slH, ev_dic0, ev_sp, evs_nil, evs_cons, evAnd_one, evAnd_cons, evOr_one, evOr_cons, vx_view, vx_cst, vx_var, vx_glb, vx_tup, vx_lst, vx_op, vx_neg, vx_not, vx_cmp, vx_and, vx_ite, vx_call, vx_callk, vx_b1, vx_b2, vx_m1, vx_idx, vx_slB, vx_slL, vx_slH, vx_dic0, vx_sp, vx_cmp2, vx_isa, vx_or, cD_int, cD_str, cD_bl, cD_non, le_int, lt_int', gt_int', ge_int', is_non, isnt_non, eq_cmp, ne_cmp, in_cmp, nin_cmp, eqD_int, eqD_str, eqD_bl, add_int, sub_int, len_lst, len_tup, tup_lst, tup_tup, abs_int, int_int, goFor_some, items_seqL, items_seqT, Option.map_some, Bool.not_true, Bool.not_false, decide_true, decide_false, hw, e2']
    subst hw
    rw [e2']
    rfl
  · have mr := mul_rep (lotsI n).length (by rw [lots_len]; omega)
    obtain ⟨c2, m2, e2, ⟨q0, q1⟩, p2⟩ := l_draw (k := k - 1) (by omega) p1 hp (many := 4) (by decide) (by decide)
    obtain ⟨N, rfl⟩ : ∃ N : Nat, c2 = N := ⟨c2.toNat, by omega⟩
    have hN : (1 : Int) + (N : Int) = ((1 + N : Nat) : Int) := by omega
    obtain ⟨r3, m3, e3, p3, xs, b3, rfl, hx, hb⟩ := for_run (f := forB ⟨txt.consts, callF txt.fs txt.consts 1000 (k - 1)⟩ 1000 (.nm 3) b__law_saying_0) (e := fun j : Nat => D.int (j : Int))
      (fun done r m => Pots PB L m ∧ ∃ (xs : List Int) (b3 : Slot), r = [.val (.ref p), .val (.int n), .own (xs.map .int), b3, .val (.lst ((plainI n).map (tabD n true))), .val (.int way), .un, .un, .un, .un] ∧ xs.length = 2 ^ n ∧ Bd done.length xs) (List.range (1 + N)) []
      [.val (.ref p), .val (.int n), .own ((List.replicate (lotsI n).length (0 : Int)).map .int), .un, .val (.lst ((plainI n).map (tabD n true))), .val (.int way), .un, .un, .un, .un] m2 ⟨p2, _, _, rfl, by rw [List.length_replicate, lots_len], Bd0 (by simp) _⟩ (by
      rintro d a rest r m' hd ⟨p', xs, b3, rfl, hx, hb⟩
      obtain ⟨row, m'', e, r1, r2, p''⟩ := sa_turn (k := k - 1) (by omega) p' hp h2 h4 hx (.int a) b3 (.val (.int way)) .un .un .un .un
      refine ⟨_, m'', e, p'', addL xs row, _, rfl, add_len hx r1, ?_⟩
      rw [List.length_append]
      exact add_bd hb r2)
    have hb : Bd 4 xs := hb.mono (by
      simp
      omega)
    have main : ∃ (ys : List Int) (m' : Mu) (b6 : Slot), evSs ⟨txt.consts, callF txt.fs txt.consts 1000 (k - 1)⟩ 1000 t__law_saying_4 [.val (.ref p), .val (.int n), .own (xs.map .int), b3, .val (.lst ((plainI n).map (tabD n true))), .val (.int way), .un, .un, .un, .un] m3 = .rt (tabD n true ys) m' ∧ ys.length = 2 ^ n ∧ Bd 6 ys ∧ Pots PB L m' := by
      by_cases hw1 : way = 1
      · obtain ⟨c4, m4, e4, ⟨q4, q5⟩, p4⟩ := l_draw (k := k - 1) (by omega) p3 hp (many := (xs.length : Int)) (by have := two_ne n; omega) (by omega)
        obtain ⟨j, rfl⟩ : ∃ N : Nat, c4 = N := ⟨c4.toNat, by omega⟩
        have hj : j < xs.length := by omega
        obtain ⟨d5, m5, e5, hd5, p5⟩ := l_pick (k := k - 1) (by omega) p4 hp (xs := [.int 1, .int (-1)]) (by simp) (by simp)
        obtain ⟨s, rfl, hs⟩ : ∃ s : Int, d5 = .int s ∧ (-1 ≤ s ∧ s ≤ 1) := by
          rcases List.mem_cons.mp hd5 with rfl | z
          · exact ⟨1, rfl, by omega⟩
          · exact ⟨-1, List.mem_singleton.mp z, by omega⟩
        have ix := ix_nat (N := xs.length) hj
        refine ⟨xs.set j (xs[j] + s), m5, .un, ?_, by rw [List.length_set, hx], fun x hx' => ?_, p5⟩
        · subst hw1
          have ng : negop (.int 1) = some (.int (-1)) := rfl
          rw [t__law_saying_4]
          simp only [ss_cons, ss_nil, s_set, s_seto, s_par, s_unp, s_app, s_setr, s_setrp, s_ext, s_seti, s_drop, s_cond, s_for, s_ret, s_retN, s_frz, thenS_nx, thenS_rt, endF_rt, endF_nx, bind_ok', st_ok', asB_ok, of_some, List.set_cons_succ, List.set_cons_zero, List.getElem?_cons_zero, List.getElem?_cons_succ, List.length_cons, List.length_nil, if_true, setAll, ownAll, List.zip_cons_cons, List.zip_nil_left, List.zip_nil_right, List.foldl_cons, List.foldl_nil, Bool.false_eq_true, if_false, reduceIte, ev_cst, ev_var, ev_tup, ev_lst, ev_op, ev_neg, ev_cmp, ev_cmp2, ev_and, ev_or, ev_not, ev_ite, ev_call, ev_b1, ev_b2, ev_isa, ev_m1, ev_idx, ev_slB, ev_slL, ev_slH, ev_dic0, ev_sp, evs_nil, evs_cons, evAnd_one, evAnd_cons, evOr_one, evOr_cons, vx_view, vx_cst, vx_var, vx_glb, vx_tup, vx_lst, vx_op, vx_neg, vx_not, vx_cmp, vx_and, vx_ite, vx_call, vx_callk, vx_b1, vx_b2, vx_m1, vx_idx, vx_slB, vx_slL, vx_slH, vx_dic0, vx_sp, vx_cmp2, vx_isa, vx_or, cD_int, cD_str, cD_bl, cD_non, le_int, lt_int', gt_int', ge_int', is_non, isnt_non, eq_cmp, ne_cmp, in_cmp, nin_cmp, eqD_int, eqD_str, eqD_bl, add_int, sub_int, len_lst, len_tup, tup_lst, tup_tup, abs_int, int_int, goFor_some, items_seqL, items_seqT, Option.map_some, Bool.not_true, Bool.not_false, decide_true, decide_false, List.length_map, e4, idx_l, at_nat, getInt hj, e5, ng, ix, set_map]
          rw [t__law_saying_5]
          simp only [ss_cons, ss_nil, s_set, s_seto, s_par, s_unp, s_app, s_setr, s_setrp, s_ext, s_seti, s_drop, s_cond, s_for, s_ret, s_retN, s_frz, thenS_nx, thenS_rt, endF_rt, endF_nx, bind_ok', st_ok', asB_ok, of_some, List.set_cons_succ, List.set_cons_zero, List.getElem?_cons_zero, List.getElem?_cons_succ, List.length_cons, List.length_nil, if_true, setAll, ownAll, List.zip_cons_cons, List.zip_nil_left, List.zip_nil_right, List.foldl_cons, List.foldl_nil, Bool.false_eq_true, if_false, reduceIte, ev_cst, ev_var, ev_tup, ev_lst, ev_op, ev_neg, ev_cmp, ev_cmp2, ev_and, ev_or, ev_not, ev_ite, ev_call, ev_b1, ev_b2, ev_isa, ev_m1, ev_idx, ev_slB, ev_slL, ev_slH, ev_dic0, ev_sp, evs_nil, evs_cons, evAnd_one, evAnd_cons, evOr_one, evOr_cons, vx_view, vx_cst, vx_var, vx_glb, vx_tup, vx_lst, vx_op, vx_neg, vx_not, vx_cmp, vx_and, vx_ite, vx_call, vx_callk, vx_b1, vx_b2, vx_m1, vx_idx, vx_slB, vx_slL, vx_slH, vx_dic0, vx_sp, vx_cmp2, vx_isa, vx_or, cD_int, cD_str, cD_bl, cD_non, le_int, lt_int', gt_int', ge_int', is_non, isnt_non, eq_cmp, ne_cmp, in_cmp, nin_cmp, eqD_int, eqD_str, eqD_bl, add_int, sub_int, len_lst, len_tup, tup_lst, tup_tup, abs_int, int_int, goFor_some, items_seqL, items_seqT, Option.map_some, Bool.not_true, Bool.not_false, decide_true, decide_false]
          rw [t__law_saying_6]
          simp only [ss_cons, ss_nil, s_set, s_seto, s_par, s_unp, s_app, s_setr, s_setrp, s_ext, s_seti, s_drop, s_cond, s_for, s_ret, s_retN, s_frz, thenS_nx, thenS_rt, endF_rt, endF_nx, bind_ok', st_ok', asB_ok, of_some, List.set_cons_succ, List.set_cons_zero, List.getElem?_cons_zero, List.getElem?_cons_succ, List.length_cons, List.length_nil, if_true, setAll, ownAll, List.zip_cons_cons, List.zip_nil_left, List.zip_nil_right, List.foldl_cons, List.foldl_nil, Bool.false_eq_true, if_false, reduceIte, ev_cst, ev_var, ev_tup, ev_lst, ev_op, ev_neg, ev_cmp, ev_cmp2, ev_and, ev_or, ev_not, ev_ite, ev_call, ev_b1, ev_b2, ev_isa, ev_m1, ev_idx, ev_slB, ev_slL, ev_slH, ev_dic0, ev_sp, evs_nil, evs_cons, evAnd_one, evAnd_cons, evOr_one, evOr_cons, vx_view, vx_cst, vx_var, vx_glb, vx_tup, vx_lst, vx_op, vx_neg, vx_not, vx_cmp, vx_and, vx_ite, vx_call, vx_callk, vx_b1, vx_b2, vx_m1, vx_idx, vx_slB, vx_slL, vx_slH, vx_dic0, vx_sp, vx_cmp2, vx_isa, vx_or, cD_int, cD_str, cD_bl, cD_non, le_int, lt_int', gt_int', ge_int', is_non, isnt_non, eq_cmp, ne_cmp, in_cmp, nin_cmp, eqD_int, eqD_str, eqD_bl, add_int, sub_int, len_lst, len_tup, tup_lst, tup_tup, abs_int, int_int, goFor_some, items_seqL, items_seqT, Option.map_some, Bool.not_true, Bool.not_false, decide_true, decide_false]
          rfl
        · rcases List.mem_or_eq_of_mem_set hx' with z | z
          · have := hb x z
            omega
          · have := hb _ (List.getElem_mem hj)
            omega
      · refine ⟨xs, m3, .un, ?_, hx, hb.mono (by decide), p3⟩
        rw [t__law_saying_4]
        simp only [ss_cons, ss_nil, s_set, s_seto, s_par, s_unp, s_app, s_setr, s_setrp, s_ext, s_seti, s_drop, s_cond, s_for, s_ret, s_retN, s_frz, thenS_nx, thenS_rt, endF_rt, endF_nx, bind_ok', st_ok', asB_ok, of_some, List.set_cons_succ, List.set_cons_zero, List.getElem?_cons_zero, List.getElem?_cons_succ, List.length_cons, List.length_nil, if_true, setAll, ownAll, List.zip_cons_cons, List.zip_nil_left, List.zip_nil_right, List.foldl_cons, List.foldl_nil, Bool.false_eq_true, if_false, reduceIte, ev_cst, ev_var, ev_tup, ev_lst, ev_op, ev_neg, ev_cmp, ev_cmp2, ev_and, ev_or, ev_not, ev_ite, ev_call, ev_b1, ev_b2, ev_isa, ev_m1, ev_idx, ev_slB, ev_slL, ev_slH, ev_dic0, ev_sp, evs_nil, evs_cons, evAnd_one, evAnd_cons, evOr_one, evOr_cons, vx_view, vx_cst, vx_var, vx_glb, vx_tup, vx_lst, vx_op, vx_neg, vx_not, vx_cmp, vx_and, vx_ite, vx_call, vx_callk, vx_b1, vx_b2, vx_m1, vx_idx, vx_slB, vx_slL, vx_slH, vx_dic0, vx_sp, vx_cmp2, vx_isa, vx_or, cD_int, cD_str, cD_bl, cD_non, le_int, lt_int', gt_int', ge_int', is_non, isnt_non, eq_cmp, ne_cmp, in_cmp, nin_cmp, eqD_int, eqD_str, eqD_bl, add_int, sub_int, len_lst, len_tup, tup_lst, tup_tup, abs_int, int_int, goFor_some, items_seqL, items_seqT, Option.map_some, Bool.not_true, Bool.not_false, decide_true, decide_false, hw1]
        rw [t__law_saying_5]
        simp only [ss_cons, ss_nil, s_set, s_seto, s_par, s_unp, s_app, s_setr, s_setrp, s_ext, s_seti, s_drop, s_cond, s_for, s_ret, s_retN, s_frz, thenS_nx, thenS_rt, endF_rt, endF_nx, bind_ok', st_ok', asB_ok, of_some, List.set_cons_succ, List.set_cons_zero, List.getElem?_cons_zero, List.getElem?_cons_succ, List.length_cons, List.length_nil, if_true, setAll, ownAll, List.zip_cons_cons, List.zip_nil_left, List.zip_nil_right, List.foldl_cons, List.foldl_nil, Bool.false_eq_true, if_false, reduceIte, ev_cst, ev_var, ev_tup, ev_lst, ev_op, ev_neg, ev_cmp, ev_cmp2, ev_and, ev_or, ev_not, ev_ite, ev_call, ev_b1, ev_b2, ev_isa, ev_m1, ev_idx, ev_slB, ev_slL, ev_slH, ev_dic0, ev_sp, evs_nil, evs_cons, evAnd_one, evAnd_cons, evOr_one, evOr_cons, vx_view, vx_cst, vx_var, vx_glb, vx_tup, vx_lst, vx_op, vx_neg, vx_not, vx_cmp, vx_and, vx_ite, vx_call, vx_callk, vx_b1, vx_b2, vx_m1, vx_idx, vx_slB, vx_slL, vx_slH, vx_dic0, vx_sp, vx_cmp2, vx_isa, vx_or, cD_int, cD_str, cD_bl, cD_non, le_int, lt_int', gt_int', ge_int', is_non, isnt_non, eq_cmp, ne_cmp, in_cmp, nin_cmp, eqD_int, eqD_str, eqD_bl, add_int, sub_int, len_lst, len_tup, tup_lst, tup_tup, abs_int, int_int, goFor_some, items_seqL, items_seqT, Option.map_some, Bool.not_true, Bool.not_false, decide_true, decide_false]
        rw [t__law_saying_6]
        simp only [ss_cons, ss_nil, s_set, s_seto, s_par, s_unp, s_app, s_setr, s_setrp, s_ext, s_seti, s_drop, s_cond, s_for, s_ret, s_retN, s_frz, thenS_nx, thenS_rt, endF_rt, endF_nx, bind_ok', st_ok', asB_ok, of_some, List.set_cons_succ, List.set_cons_zero, List.getElem?_cons_zero, List.getElem?_cons_succ, List.length_cons, List.length_nil, if_true, setAll, ownAll, List.zip_cons_cons, List.zip_nil_left, List.zip_nil_right, List.foldl_cons, List.foldl_nil, Bool.false_eq_true, if_false, reduceIte, ev_cst, ev_var, ev_tup, ev_lst, ev_op, ev_neg, ev_cmp, ev_cmp2, ev_and, ev_or, ev_not, ev_ite, ev_call, ev_b1, ev_b2, ev_isa, ev_m1, ev_idx, ev_slB, ev_slL, ev_slH, ev_dic0, ev_sp, evs_nil, evs_cons, evAnd_one, evAnd_cons, evOr_one, evOr_cons, vx_view, vx_cst, vx_var, vx_glb, vx_tup, vx_lst, vx_op, vx_neg, vx_not, vx_cmp, vx_and, vx_ite, vx_call, vx_callk, vx_b1, vx_b2, vx_m1, vx_idx, vx_slB, vx_slL, vx_slH, vx_dic0, vx_sp, vx_cmp2, vx_isa, vx_or, cD_int, cD_str, cD_bl, cD_non, le_int, lt_int', gt_int', ge_int', is_non, isnt_non, eq_cmp, ne_cmp, in_cmp, nin_cmp, eqD_int, eqD_str, eqD_bl, add_int, sub_int, len_lst, len_tup, tup_lst, tup_tup, abs_int, int_int, goFor_some, items_seqL, items_seqT, Option.map_some, Bool.not_true, Bool.not_false, decide_true, decide_false]
        rfl
    obtain ⟨ys, m', _, e, h1, h2, h3⟩ := main
    refine ⟨ys, m', ?_, h1, h2, h3⟩
    have it := items_rngN (N := 1 + N) (by omega)
    simp only [f__law_saying, startS, List.map_cons, List.map_nil, List.cons_append, List.nil_append, List.replicate]
    rw [t__law_saying_0]
    simp only [ss_cons, ss_nil, s_set, s_seto, s_par, s_unp, s_app, s_setr, s_setrp, s_ext, s_seti, s_drop, s_cond, s_for, s_ret, s_retN, s_frz, thenS_nx, thenS_rt, endF_rt, endF_nx, bind_ok', st_ok', asB_ok, of_some, List.set_cons_succ, List.set_cons_zero, List.getElem?_cons_zero, List.getElem?_cons_succ, List.length_cons, List.length_nil, if_true, setAll, ownAll, List.zip_cons_cons, List.zip_nil_left, List.zip_nil_right, List.foldl_cons, List.foldl_nil, Bool.false_eq_true, if_false, reduceIte, ev_cst, ev_var, ev_tup, ev_lst, ev_op, ev_neg, ev_cmp, ev_cmp2, ev_and, ev_or, ev_not, ev_ite, ev_call, ev_b1, ev_b2, ev_isa, ev_m1, ev_idx, ev_slB, ev_slL, ev_slH, ev_dic0, ev_sp, evs_nil, evs_cons, evAnd_one, evAnd_cons, evOr_one, evOr_cons, vx_view, vx_cst, vx_var, vx_glb, vx_tup, vx_lst, vx_op, vx_neg, vx_not, vx_cmp, vx_and, vx_ite, vx_call, vx_callk, vx_b1, vx_b2, vx_m1, vx_idx, vx_slB, vx_slL, vx_slH, vx_dic0, vx_sp, vx_cmp2, vx_isa, vx_or, cD_int, cD_str, cD_bl, cD_non, le_int, lt_int', gt_int', ge_int', is_non, isnt_non, eq_cmp, ne_cmp, in_cmp, nin_cmp, eqD_int, eqD_str, eqD_bl, add_int, sub_int, len_lst, len_tup, tup_lst, tup_tup, abs_int, int_int, goFor_some, items_seqL, items_seqT, Option.map_some, Bool.not_true, Bool.not_false, decide_true, decide_false, ll, e1]
    rw [t__law_saying_1]
    simp only [ss_cons, ss_nil, s_set, s_seto, s_par, s_unp, s_app, s_setr, s_setrp, s_ext, s_seti, s_drop, s_cond, s_for, s_ret, s_retN, s_frz, thenS_nx, thenS_rt, endF_rt, endF_nx, bind_ok', st_ok', asB_ok, of_some, List.set_cons_succ, List.set_cons_zero, List.getElem?_cons_zero, List.getElem?_cons_succ, List.length_cons, List.length_nil, if_true, setAll, ownAll, List.zip_cons_cons, List.zip_nil_left, List.zip_nil_right, List.foldl_cons, List.foldl_nil, Bool.false_eq_true, if_false, reduceIte, ev_cst, ev_var, ev_tup, ev_lst, ev_op, ev_neg, ev_cmp, ev_cmp2, ev_and, ev_or, ev_not, ev_ite, ev_call, ev_b1, ev_b2, ev_isa, ev_m1, ev_idx, ev_slB, ev_slL, ev_slH, ev_dic0, ev_sp, evs_nil, evs_cons, evAnd_one, evAnd_cons, evOr_one, evOr_cons, vx_view, vx_cst, vx_var, vx_glb, vx_tup, vx_lst, vx_op, vx_neg, vx_not, vx_cmp, vx_and, vx_ite, vx_call, vx_callk, vx_b1, vx_b2, vx_m1, vx_idx, vx_slB, vx_slL, vx_slH, vx_dic0, vx_sp, vx_cmp2, vx_isa, vx_or, cD_int, cD_str, cD_bl, cD_non, le_int, lt_int', gt_int', ge_int', is_non, isnt_non, eq_cmp, ne_cmp, in_cmp, nin_cmp, eqD_int, eqD_str, eqD_bl, add_int, sub_int, len_lst, len_tup, tup_lst, tup_tup, abs_int, int_int, goFor_some, items_seqL, items_seqT, Option.map_some, Bool.not_true, Bool.not_false, decide_true, decide_false, hw]
    rw [t__law_saying_2]
    simp only [ss_cons, ss_nil, s_set, s_seto, s_par, s_unp, s_app, s_setr, s_setrp, s_ext, s_seti, s_drop, s_cond, s_for, s_ret, s_retN, s_frz, thenS_nx, thenS_rt, endF_rt, endF_nx, bind_ok', st_ok', asB_ok, of_some, List.set_cons_succ, List.set_cons_zero, List.getElem?_cons_zero, List.getElem?_cons_succ, List.length_cons, List.length_nil, if_true, setAll, ownAll, List.zip_cons_cons, List.zip_nil_left, List.zip_nil_right, List.foldl_cons, List.foldl_nil, Bool.false_eq_true, if_false, reduceIte, ev_cst, ev_var, ev_tup, ev_lst, ev_op, ev_neg, ev_cmp, ev_cmp2, ev_and, ev_or, ev_not, ev_ite, ev_call, ev_b1, ev_b2, ev_isa, ev_m1, ev_idx, ev_slB, ev_slL, ev_slH, ev_dic0, ev_sp, evs_nil, evs_cons, evAnd_one, evAnd_cons, evOr_one, evOr_cons, vx_view, vx_cst, vx_var, vx_glb, vx_tup, vx_lst, vx_op, vx_neg, vx_not, vx_cmp, vx_and, vx_ite, vx_call, vx_callk, vx_b1, vx_b2, vx_m1, vx_idx, vx_slB, vx_slL, vx_slH, vx_dic0, vx_sp, vx_cmp2, vx_isa, vx_or, cD_int, cD_str, cD_bl, cD_non, le_int, lt_int', gt_int', ge_int', is_non, isnt_non, eq_cmp, ne_cmp, in_cmp, nin_cmp, eqD_int, eqD_str, eqD_bl, add_int, sub_int, len_lst, len_tup, tup_lst, tup_tup, abs_int, int_int, goFor_some, items_seqL, items_seqT, Option.map_some, Bool.not_true, Bool.not_false, decide_true, decide_false, lo, List.length_map, mr]
    rw [t__law_saying_3]
    simp only [ss_cons, ss_nil, s_set, s_seto, s_par, s_unp, s_app, s_setr, s_setrp, s_ext, s_seti, s_drop, s_cond, s_for, s_ret, s_retN, s_frz, thenS_nx, thenS_rt, endF_rt, endF_nx, bind_ok', st_ok', asB_ok, of_some, List.set_cons_succ, List.set_cons_zero, List.getElem?_cons_zero, List.getElem?_cons_succ, List.length_cons, List.length_nil, if_true, setAll, ownAll, List.zip_cons_cons, List.zip_nil_left, List.zip_nil_right, List.foldl_cons, List.foldl_nil, Bool.false_eq_true, if_false, reduceIte, ev_cst, ev_var, ev_tup, ev_lst, ev_op, ev_neg, ev_cmp, ev_cmp2, ev_and, ev_or, ev_not, ev_ite, ev_call, ev_b1, ev_b2, ev_isa, ev_m1, ev_idx, ev_slB, ev_slL, ev_slH, ev_dic0, ev_sp, evs_nil, evs_cons, evAnd_one, evAnd_cons, evOr_one, evOr_cons, vx_view, vx_cst, vx_var, vx_glb, vx_tup, vx_lst, vx_op, vx_neg, vx_not, vx_cmp, vx_and, vx_ite, vx_call, vx_callk, vx_b1, vx_b2, vx_m1, vx_idx, vx_slB, vx_slL, vx_slH, vx_dic0, vx_sp, vx_cmp2, vx_isa, vx_or, cD_int, cD_str, cD_bl, cD_non, le_int, lt_int', gt_int', ge_int', is_non, isnt_non, eq_cmp, ne_cmp, in_cmp, nin_cmp, eqD_int, eqD_str, eqD_bl, add_int, sub_int, len_lst, len_tup, tup_lst, tup_tup, abs_int, int_int, goFor_some, items_seqL, items_seqT, Option.map_some, Bool.not_true, Bool.not_false, decide_true, decide_false, e2, hN, it, e3, e]
end L89

set_option linter.all false
set_option maxRecDepth 100000
set_option maxHeartbeats 4000000
namespace L89
open PySem Mi L2
/-! A15: the law's own run, from the end: is_saying, plain sayings once more. -/
def PL (n : Nat) : D := .lst ((plainI n).map (tabD n true))
def LL (n : Nat) : D := .lst ((lotsI n).map lotD)
abbrev gg (k : Nat) : Mi.Env0 := ⟨txt.consts, callF txt.fs txt.consts 1000 k⟩
theorem slL_1 (xs : List D) : slLI (.lst xs) (.int 1) = some (.lst (xs.drop 1)) := slL_l xs 1
theorem slL_2 (xs : List D) : slLI (.lst xs) (.int 2) = some (.lst (xs.drop 2)) := slL_l xs 2
theorem add_l {a b : List D} (h : a.length + b.length ≤ 1000) : binop .Add (.lst a) (.lst b) = some (.lst (a ++ b)) := if_pos (decide_eq_true (by omega))
theorem rep2 {d : D} {W : Nat} {dp : Nat} (h : Nice dp W d) (h1 : dp + 1 ≤ 40) (h2 : 2 * (W + 1) ≤ 380000) : ∃ x, b1op .repr (.lst [d, d]) = some (.str x) :=
  (nice_lst (dp := dp) (W := W) (ds := [d, d]) (by
    intro e he
    have : e = d := by simpa using he
    rw [this]
    exact h)).repr h1 h2
theorem nice_ints {l : List Int} (h : Bd 1000000 l) : Nice 2 (l.length * 41) (.lst (l.map D.int)) := by
  have := nice_lst (dp := 1) (W := 40) (ds := l.map D.int) (by
    intro d hd
    obtain ⟨x, hx, rfl⟩ := List.mem_map.mp hd
    have := h x hx
    exact nice_int (by omega))
  rw [List.length_map] at this
  exact this
theorem nice_tab {n : Nat} (hn : n ≤ 5) {l : List Int} (hl : l.length = 2 ^ n) (h : Bd 1000000 l) : Nice 3 2700 (tabD n true l) := by
  have l32 := len32 hn
  have := nice_tup (dp := 2) (W := 1320) (ds := [.int n, .lst (l.map D.int)]) (by
    intro d hd
    rcases List.mem_cons.mp hd with rfl | hd
    · exact (nice_int (by omega)).mono (by decide) (by decide)
    · rw [List.mem_singleton.mp hd]
      exact (nice_ints h).mono (by decide) (by rw [hl]; omega))
  exact this.mono (by decide) (by simp)
theorem rep_bool (b : Bool) : ∃ x, b1op .repr (.lst [.bl b, .bl b]) = some (.str x) := rep2 (nice_bl b) (by decide) (by decide)
theorem top2_ints (n : Int) (l : List Int) : top2 (.tup [.int n, .lst (l.map D.int)]) = true := by simp [top2, top, kids]
theorem s_turn {k : Nat} (hk : 6 ≤ k) {m : Mu} {d : D} (h : top2 d = true) (v0 v1 a2 a3 a4 a5 a6 a7 a8 a9 a10 a11 a12 a13 a14 a15 a16 a17 a18 a19 a20 a21 a22 a23 a24 : Slot) :
    ∃ b4, forB (gg k) 1000 (.nm 8) b__law_right_2 d [v0, v1, a2, a3, a4, a5, a6, a7, a8, a9, a10, a11, a12, a13, a14, a15, a16, a17, a18, a19, a20, a21, a22, a23, a24] m
      = .nx [v0, v1, a2, a3, b4, a5, a6, a7, .val d, a9, a10, a11, a12, a13, a14, a15, a16, a17, a18, a19, a20, a21, a22, a23, a24] m := by
  have e1 := l_is_saying (k := k) (by omega) m h
  have e2 : callF txt.fs txt.consts 1000 k i_is_saying [d] m = .ok (.bl (tabLike 2 4 (inW (-9) 9) d)) m := by
    rw [cl_u (by omega) h_is_saying rfl]
    simp [f_is_saying, startS, r_is_saying_of (k := k - 1) (by omega) m h]
  obtain ⟨x, hx⟩ := rep_bool (tabLike 2 4 (inW (-9) 9) d)
  refine ⟨.val (.bl (tabLike 2 4 (inW (-9) 9) d)), ?_⟩
  unfold forB b__law_right_2
  simp only [bind_nm]
  simp only [ss_cons, ss_nil, s_set, s_seto, s_par, s_unp, s_app, s_setr, s_setrp, s_ext, s_seti, s_drop, s_cond, s_for, s_ret, s_retN, s_frz, thenS_nx, thenS_rt, endF_rt, endF_nx, bind_ok', st_ok', asB_ok, of_some, List.set_cons_succ, List.set_cons_zero, List.getElem?_cons_zero, List.getElem?_cons_succ, List.length_cons, List.length_nil, if_true, setAll, ownAll, List.zip_cons_cons, List.zip_nil_left, List.zip_nil_right, List.foldl_cons, List.foldl_nil, Bool.false_eq_true, if_false, reduceIte, ev_cst, ev_var, ev_tup, ev_lst, ev_op, ev_neg, ev_cmp, ev_cmp2, ev_and, ev_or, ev_not, ev_ite, ev_call, ev_b1, ev_b2, ev_isa, ev_m1, ev_idx, ev_slB, ev_slL, ev_slH, ev_dic0, ev_sp, evs_nil, evs_cons, evAnd_one, evAnd_cons, evOr_one, evOr_cons, vx_view, vx_cst, vx_var, vx_glb, vx_tup, vx_lst, vx_op, vx_neg, vx_not, vx_cmp, vx_and, vx_ite, vx_call, vx_callk, vx_b1, vx_b2, vx_m1, vx_idx, vx_slB, vx_slL, vx_slH, vx_dic0, vx_sp, vx_cmp2, vx_isa, vx_or, cD_int, cD_str, cD_bl, cD_non, le_int, lt_int', gt_int', ge_int', is_non, isnt_non, eq_cmp, ne_cmp, in_cmp, nin_cmp, eqD_int, eqD_str, eqD_bl, add_int, sub_int, len_lst, len_tup, tup_lst, tup_tup, abs_int, int_int, goFor_some, items_seqL, items_seqT, Option.map_some, Bool.not_true, Bool.not_false, decide_true, decide_false, e1, e2, ev_callk, permD, List.foldr_cons, List.foldr_nil, List.nil_append, hx]
theorem s_loop {k : Nat} (hk : 6 ≤ k) {m : Mu} : ∀ (ds : List D) (v0 v1 a2 a3 a4 a5 a6 a7 a8 a9 a10 a11 a12 a13 a14 a15 a16 a17 a18 a19 a20 a21 a22 a23 a24 : Slot), (∀ d ∈ ds, top2 d = true) →
    ∃ b4 b8, forR (forB (gg k) 1000 (.nm 8) b__law_right_2) ds [v0, v1, a2, a3, a4, a5, a6, a7, a8, a9, a10, a11, a12, a13, a14, a15, a16, a17, a18, a19, a20, a21, a22, a23, a24] m
      = .nx [v0, v1, a2, a3, b4, a5, a6, a7, b8, a9, a10, a11, a12, a13, a14, a15, a16, a17, a18, a19, a20, a21, a22, a23, a24] m
  | [], v0, v1, a2, a3, a4, a5, a6, a7, a8, a9, a10, a11, a12, a13, a14, a15, a16, a17, a18, a19, a20, a21, a22, a23, a24, _ => ⟨a4, a8, rfl⟩
  | d :: ds, v0, v1, a2, a3, a4, a5, a6, a7, a8, a9, a10, a11, a12, a13, a14, a15, a16, a17, a18, a19, a20, a21, a22, a23, a24, h => by
    obtain ⟨b4, e⟩ := s_turn hk (m := m) (h d List.mem_cons_self) v0 v1 a2 a3 a4 a5 a6 a7 a8 a9 a10 a11 a12 a13 a14 a15 a16 a17 a18 a19 a20 a21 a22 a23 a24
    obtain ⟨c4, c8, e2⟩ := s_loop hk (m := m) ds v0 v1 a2 a3 b4 a5 a6 a7 (.val d) a9 a10 a11 a12 a13 a14 a15 a16 a17 a18 a19 a20 a21 a22 a23 a24 fun d hd => h d (List.mem_cons_of_mem _ hd)
    refine ⟨c4, c8, ?_⟩
    rw [forR, e]
    exact e2
theorem callOf_ok {g : Mi.Env0} {f : Nat} {es : Exs} {r : List Slot} {m : Mu} {ds : List D} {d : D} (h1 : evs g es r m = .ok ds m) (h2 : noLists ds = true) (h3 : m.all noLists = true) (h4 : g.call f ds m = .ok d m) : callOf g (.call f es) r m = some (d, m) := by
  unfold callOf
  simp [h1, h2, h3, h4]
theorem pots_noL {B : Int} {L : Nat} {m : Mu} (h : Pots B L m) : m.all noLists = true := List.all_eq_true.mpr fun l hl => by
  obtain ⟨p0, p1, rfl, _⟩ := h.each l hl
  rfl
theorem plain_nice {n : Nat} (h2 : 2 ≤ n) (h4 : n ≤ 4) : Nice 5 180000 (PL n) := by
  obtain ⟨p1, p2, p3⟩ := plain_rows h2 h4
  have hlen : (plainI n).length ≤ 28 := by
    have : n = 2 ∨ n = 3 ∨ n = 4 := by omega
    rcases this with rfl | rfl | rfl <;> decide +kernel
  have := nice_lst (dp := 3) (W := 2700) (ds := (plainI n).map (tabD n true)) (by
    intro d hd
    obtain ⟨row, hr, rfl⟩ := List.mem_map.mp hd
    exact nice_tab (by omega) (p3 row hr).1 fun x hx => by have := (p3 row hr).2 x hx; omega)
  rw [List.length_map] at this
  exact this.mono (by decide) (by omega)
theorem part_D {k : Nat} (hk : 8 ≤ k) {L p n : Nat} {m : Mu} (h : Pots PB L m) (hp : p < L) (h2 : 2 ≤ n) (h4 : n ≤ 4) {xs : List Int} (hx : Say n xs) (a2 a3 a4 a5 a6 a7 a8 a9 a10 a11 a12 a13 a14 a15 a19 a20 a21 a22 a23 a24 : Slot) :
    evSs (gg k) 1000 t__law_right_28 [.val (.ref p), .val (.int n), a2, a3, a4, a5, a6, a7, a8, a9, a10, a11, a12, a13, a14, a15, .val (PL n), .val (LL n), .val (tabD n true xs), a19, a20, a21, a22, a23, a24] m = .rt (.bl true) m := by
  have l32 := len32 (n := n) (by omega)
  have hl := hx.len
  have ng : negop (.int 9) = some (.int (-9)) := rfl
  have m32 := mul_rep 32 (by decide)
  have m32 : binop .Mult (.lst [.int 0]) (.int 32) = some (.lst ((List.replicate 32 (0 : Int)).map D.int)) := m32
  have A1 : binop .Add (.lst (xs.map D.int)) (.lst [.int 0]) = some (.lst ((xs ++ [0]).map D.int)) := (add_l (by simp; omega)).trans (by simp)
  have A2 : ∀ c : D, binop .Add (.lst [c]) (.lst ((xs.map D.int).drop 1)) = some (.lst (c :: (xs.drop 1).map D.int)) := fun c => (add_l (by simp; omega)).trans (by simp [List.map_drop])
  rw [t__law_right_28]
  simp only [ss_cons, ss_nil, s_set, s_seto, s_par, s_unp, s_app, s_setr, s_setrp, s_ext, s_seti, s_drop, s_cond, s_for, s_ret, s_retN, s_frz, thenS_nx, thenS_rt, endF_rt, endF_nx, bind_ok', st_ok', asB_ok, of_some, List.set_cons_succ, List.set_cons_zero, List.getElem?_cons_zero, List.getElem?_cons_succ, List.length_cons, List.length_nil, if_true, setAll, ownAll, List.zip_cons_cons, List.zip_nil_left, List.zip_nil_right, List.foldl_cons, List.foldl_nil, Bool.false_eq_true, if_false, reduceIte, ev_cst, ev_var, ev_tup, ev_lst, ev_op, ev_neg, ev_cmp, ev_cmp2, ev_and, ev_or, ev_not, ev_ite, ev_call, ev_b1, ev_b2, ev_isa, ev_m1, ev_idx, ev_slB, ev_slL, ev_slH, ev_dic0, ev_sp, evs_nil, evs_cons, evAnd_one, evAnd_cons, evOr_one, evOr_cons, vx_view, vx_cst, vx_var, vx_glb, vx_tup, vx_lst, vx_op, vx_neg, vx_not, vx_cmp, vx_and, vx_ite, vx_call, vx_callk, vx_b1, vx_b2, vx_m1, vx_idx, vx_slB, vx_slL, vx_slH, vx_dic0, vx_sp, vx_cmp2, vx_isa, vx_or, cD_int, cD_str, cD_bl, cD_non, le_int, lt_int', gt_int', ge_int', is_non, isnt_non, eq_cmp, ne_cmp, in_cmp, nin_cmp, eqD_int, eqD_str, eqD_bl, add_int, sub_int, len_lst, len_tup, tup_lst, tup_tup, abs_int, int_int, goFor_some, items_seqL, items_seqT, Option.map_some, Bool.not_true, Bool.not_false, decide_true, decide_false, idx1_tab, seqD]
  rw [t__law_right_29]
  simp only [ss_cons, ss_nil, s_set, s_seto, s_par, s_unp, s_app, s_setr, s_setrp, s_ext, s_seti, s_drop, s_cond, s_for, s_ret, s_retN, s_frz, thenS_nx, thenS_rt, endF_rt, endF_nx, bind_ok', st_ok', asB_ok, of_some, List.set_cons_succ, List.set_cons_zero, List.getElem?_cons_zero, List.getElem?_cons_succ, List.length_cons, List.length_nil, if_true, setAll, ownAll, List.zip_cons_cons, List.zip_nil_left, List.zip_nil_right, List.foldl_cons, List.foldl_nil, Bool.false_eq_true, if_false, reduceIte, ev_cst, ev_var, ev_tup, ev_lst, ev_op, ev_neg, ev_cmp, ev_cmp2, ev_and, ev_or, ev_not, ev_ite, ev_call, ev_b1, ev_b2, ev_isa, ev_m1, ev_idx, ev_slB, ev_slL, ev_slH, ev_dic0, ev_sp, evs_nil, evs_cons, evAnd_one, evAnd_cons, evOr_one, evOr_cons, vx_view, vx_cst, vx_var, vx_glb, vx_tup, vx_lst, vx_op, vx_neg, vx_not, vx_cmp, vx_and, vx_ite, vx_call, vx_callk, vx_b1, vx_b2, vx_m1, vx_idx, vx_slB, vx_slL, vx_slH, vx_dic0, vx_sp, vx_cmp2, vx_isa, vx_or, cD_int, cD_str, cD_bl, cD_non, le_int, lt_int', gt_int', ge_int', is_non, isnt_non, eq_cmp, ne_cmp, in_cmp, nin_cmp, eqD_int, eqD_str, eqD_bl, add_int, sub_int, len_lst, len_tup, tup_lst, tup_tup, abs_int, int_int, goFor_some, items_seqL, items_seqT, Option.map_some, Bool.not_true, Bool.not_false, decide_true, decide_false, A1, A2, slL_1, ng]
  rw [t__law_right_30]
  simp only [ss_cons, ss_nil, s_set, s_seto, s_par, s_unp, s_app, s_setr, s_setrp, s_ext, s_seti, s_drop, s_cond, s_for, s_ret, s_retN, s_frz, thenS_nx, thenS_rt, endF_rt, endF_nx, bind_ok', st_ok', asB_ok, of_some, List.set_cons_succ, List.set_cons_zero, List.getElem?_cons_zero, List.getElem?_cons_succ, List.length_cons, List.length_nil, if_true, setAll, ownAll, List.zip_cons_cons, List.zip_nil_left, List.zip_nil_right, List.foldl_cons, List.foldl_nil, Bool.false_eq_true, if_false, reduceIte, ev_cst, ev_var, ev_tup, ev_lst, ev_op, ev_neg, ev_cmp, ev_cmp2, ev_and, ev_or, ev_not, ev_ite, ev_call, ev_b1, ev_b2, ev_isa, ev_m1, ev_idx, ev_slB, ev_slL, ev_slH, ev_dic0, ev_sp, evs_nil, evs_cons, evAnd_one, evAnd_cons, evOr_one, evOr_cons, vx_view, vx_cst, vx_var, vx_glb, vx_tup, vx_lst, vx_op, vx_neg, vx_not, vx_cmp, vx_and, vx_ite, vx_call, vx_callk, vx_b1, vx_b2, vx_m1, vx_idx, vx_slB, vx_slL, vx_slH, vx_dic0, vx_sp, vx_cmp2, vx_isa, vx_or, cD_int, cD_str, cD_bl, cD_non, le_int, lt_int', gt_int', ge_int', is_non, isnt_non, eq_cmp, ne_cmp, in_cmp, nin_cmp, eqD_int, eqD_str, eqD_bl, add_int, sub_int, len_lst, len_tup, tup_lst, tup_tup, abs_int, int_int, goFor_some, items_seqL, items_seqT, Option.map_some, Bool.not_true, Bool.not_false, decide_true, decide_false, A2, slL_1, m32]
  rw [add_l (by simp)]
  simp only [ss_cons, ss_nil, s_set, s_seto, s_par, s_unp, s_app, s_setr, s_setrp, s_ext, s_seti, s_drop, s_cond, s_for, s_ret, s_retN, s_frz, thenS_nx, thenS_rt, endF_rt, endF_nx, bind_ok', st_ok', asB_ok, of_some, List.set_cons_succ, List.set_cons_zero, List.getElem?_cons_zero, List.getElem?_cons_succ, List.length_cons, List.length_nil, if_true, setAll, ownAll, List.zip_cons_cons, List.zip_nil_left, List.zip_nil_right, List.foldl_cons, List.foldl_nil, Bool.false_eq_true, if_false, reduceIte, ev_cst, ev_var, ev_tup, ev_lst, ev_op, ev_neg, ev_cmp, ev_cmp2, ev_and, ev_or, ev_not, ev_ite, ev_call, ev_b1, ev_b2, ev_isa, ev_m1, ev_idx, ev_slB, ev_slL, ev_slH, ev_dic0, ev_sp, evs_nil, evs_cons, evAnd_one, evAnd_cons, evOr_one, evOr_cons, vx_view, vx_cst, vx_var, vx_glb, vx_tup, vx_lst, vx_op, vx_neg, vx_not, vx_cmp, vx_and, vx_ite, vx_call, vx_callk, vx_b1, vx_b2, vx_m1, vx_idx, vx_slB, vx_slL, vx_slH, vx_dic0, vx_sp, vx_cmp2, vx_isa, vx_or, cD_int, cD_str, cD_bl, cD_non, le_int, lt_int', gt_int', ge_int', is_non, isnt_non, eq_cmp, ne_cmp, in_cmp, nin_cmp, eqD_int, eqD_str, eqD_bl, add_int, sub_int, len_lst, len_tup, tup_lst, tup_tup, abs_int, int_int, goFor_some, items_seqL, items_seqT, Option.map_some, Bool.not_true, Bool.not_false, decide_true, decide_false, List.cons_append, List.nil_append]
  rw [t__law_right_31]
  simp only [ss_cons, ss_nil, s_set, s_seto, s_par, s_unp, s_app, s_setr, s_setrp, s_ext, s_seti, s_drop, s_cond, s_for, s_ret, s_retN, s_frz, thenS_nx, thenS_rt, endF_rt, endF_nx, bind_ok', st_ok', asB_ok, of_some, List.set_cons_succ, List.set_cons_zero, List.getElem?_cons_zero, List.getElem?_cons_succ, List.length_cons, List.length_nil, if_true, setAll, ownAll, List.zip_cons_cons, List.zip_nil_left, List.zip_nil_right, List.foldl_cons, List.foldl_nil, Bool.false_eq_true, if_false, reduceIte, ev_cst, ev_var, ev_tup, ev_lst, ev_op, ev_neg, ev_cmp, ev_cmp2, ev_and, ev_or, ev_not, ev_ite, ev_call, ev_b1, ev_b2, ev_isa, ev_m1, ev_idx, ev_slB, ev_slL, ev_slH, ev_dic0, ev_sp, evs_nil, evs_cons, evAnd_one, evAnd_cons, evOr_one, evOr_cons, vx_view, vx_cst, vx_var, vx_glb, vx_tup, vx_lst, vx_op, vx_neg, vx_not, vx_cmp, vx_and, vx_ite, vx_call, vx_callk, vx_b1, vx_b2, vx_m1, vx_idx, vx_slB, vx_slL, vx_slH, vx_dic0, vx_sp, vx_cmp2, vx_isa, vx_or, cD_int, cD_str, cD_bl, cD_non, le_int, lt_int', gt_int', ge_int', is_non, isnt_non, eq_cmp, ne_cmp, in_cmp, nin_cmp, eqD_int, eqD_str, eqD_bl, add_int, sub_int, len_lst, len_tup, tup_lst, tup_tup, abs_int, int_int, goFor_some, items_seqL, items_seqT, Option.map_some, Bool.not_true, Bool.not_false, decide_true, decide_false]
  rw [add_l (by simp)]
  simp only [ss_cons, ss_nil, s_set, s_seto, s_par, s_unp, s_app, s_setr, s_setrp, s_ext, s_seti, s_drop, s_cond, s_for, s_ret, s_retN, s_frz, thenS_nx, thenS_rt, endF_rt, endF_nx, bind_ok', st_ok', asB_ok, of_some, List.set_cons_succ, List.set_cons_zero, List.getElem?_cons_zero, List.getElem?_cons_succ, List.length_cons, List.length_nil, if_true, setAll, ownAll, List.zip_cons_cons, List.zip_nil_left, List.zip_nil_right, List.foldl_cons, List.foldl_nil, Bool.false_eq_true, if_false, reduceIte, ev_cst, ev_var, ev_tup, ev_lst, ev_op, ev_neg, ev_cmp, ev_cmp2, ev_and, ev_or, ev_not, ev_ite, ev_call, ev_b1, ev_b2, ev_isa, ev_m1, ev_idx, ev_slB, ev_slL, ev_slH, ev_dic0, ev_sp, evs_nil, evs_cons, evAnd_one, evAnd_cons, evOr_one, evOr_cons, vx_view, vx_cst, vx_var, vx_glb, vx_tup, vx_lst, vx_op, vx_neg, vx_not, vx_cmp, vx_and, vx_ite, vx_call, vx_callk, vx_b1, vx_b2, vx_m1, vx_idx, vx_slB, vx_slL, vx_slH, vx_dic0, vx_sp, vx_cmp2, vx_isa, vx_or, cD_int, cD_str, cD_bl, cD_non, le_int, lt_int', gt_int', ge_int', is_non, isnt_non, eq_cmp, ne_cmp, in_cmp, nin_cmp, eqD_int, eqD_str, eqD_bl, add_int, sub_int, len_lst, len_tup, tup_lst, tup_tup, abs_int, int_int, goFor_some, items_seqL, items_seqT, Option.map_some, Bool.not_true, Bool.not_false, decide_true, decide_false, List.cons_append, List.nil_append]
  have tp : ∀ d : D, top d = true → top2 (.tup [.int n, .lst (d :: (xs.drop 1).map D.int)]) = true := fun d hd => by
    have t3 : ((xs.drop 1).map D.int).all top = true := List.all_eq_true.mpr fun x hx => by
      obtain ⟨y, _, rfl⟩ := List.mem_map.mp hx
      rfl
    show ((true && true) && ((true && (top d && _)) && true)) = true
    rw [hd, t3]
    rfl
  obtain ⟨b4, b8, e⟩ := s_loop (k := k) (by omega) (m := m) [tabD n true xs, D.tup [D.int n, D.lst (List.map D.int (xs ++ [0]))], D.tup [D.int n, D.lst (D.int 10 :: List.map D.int (List.drop 1 xs))], D.tup [D.int n, D.lst (D.int (-9) :: List.map D.int (List.drop 1 xs))], D.non, D.tup [],
    D.tup [D.int n, D.lst (D.non :: List.map D.int (List.drop 1 xs))], D.lst [D.int n, D.lst (List.map D.int xs)], D.tup [D.int 5, D.lst (List.map D.int (List.replicate 32 0))], D.tup [D.int 1, D.lst [D.int 0, D.int 0]], D.tup [D.int n], D.tup [D.bl true, D.lst [D.int 0, D.int 0]]]
    (.val (.ref p)) (.val (.int n)) a2 a3 a4 a5 a6 _ a8 a9 a10 a11 a12 a13 (.val (.lst (List.map D.int xs))) a15 (.val (PL n)) (.val (LL n)) (.val (tabD n true xs)) a19 a20 a21 a22 a23 a24 (by
      intro d hd
      simp only [List.mem_cons, List.not_mem_nil, or_false] at hd
      rcases hd with rfl | rfl | rfl | rfl | rfl | rfl | rfl | rfl | rfl | rfl | rfl | rfl
      · exact top2_tab _ _ _
      · exact top2_ints _ _
      · exact tp _ rfl
      · exact tp _ rfl
      · rfl
      · rfl
      · exact tp _ rfl
      · rfl
      · exact top2_ints _ _
      · rfl
      · rfl
      · rfl)
  rw [e]
  simp only [ss_cons, ss_nil, s_set, s_seto, s_par, s_unp, s_app, s_setr, s_setrp, s_ext, s_seti, s_drop, s_cond, s_for, s_ret, s_retN, s_frz, thenS_nx, thenS_rt, endF_rt, endF_nx, bind_ok', st_ok', asB_ok, of_some, List.set_cons_succ, List.set_cons_zero, List.getElem?_cons_zero, List.getElem?_cons_succ, List.length_cons, List.length_nil, if_true, setAll, ownAll, List.zip_cons_cons, List.zip_nil_left, List.zip_nil_right, List.foldl_cons, List.foldl_nil, Bool.false_eq_true, if_false, reduceIte, ev_cst, ev_var, ev_tup, ev_lst, ev_op, ev_neg, ev_cmp, ev_cmp2, ev_and, ev_or, ev_not, ev_ite, ev_call, ev_b1, ev_b2, ev_isa, ev_m1, ev_idx, ev_slB, ev_slL, ev_slH, ev_dic0, ev_sp, evs_nil, evs_cons, evAnd_one, evAnd_cons, evOr_one, evOr_cons, vx_view, vx_cst, vx_var, vx_glb, vx_tup, vx_lst, vx_op, vx_neg, vx_not, vx_cmp, vx_and, vx_ite, vx_call, vx_callk, vx_b1, vx_b2, vx_m1, vx_idx, vx_slB, vx_slL, vx_slH, vx_dic0, vx_sp, vx_cmp2, vx_isa, vx_or, cD_int, cD_str, cD_bl, cD_non, le_int, lt_int', gt_int', ge_int', is_non, isnt_non, eq_cmp, ne_cmp, in_cmp, nin_cmp, eqD_int, eqD_str, eqD_bl, add_int, sub_int, len_lst, len_tup, tup_lst, tup_tup, abs_int, int_int, goFor_some, items_seqL, items_seqT, Option.map_some, Bool.not_true, Bool.not_false, decide_true, decide_false]
  have pl := r_plain_sayings (k := k) (by omega) m h2 h4
  have co : ∀ r : List Slot, r[1]? = some (.val (.int (n : Int))) → callOf (gg k) (.call i_plain_sayings (.cons (.var 1) .nil)) r m = some (.lst ((plainI n).map (tabD n true)), m) := fun r hr => callOf_ok (ds := [.int n]) (by
    rw [evs_cons, ev_var, hr]
    rfl) rfl (pots_noL h) pl
  have pr := (plain_rows h2 h4).2.1
  obtain ⟨x, hx⟩ := (plain_nice h2 h4).repr (by decide) (by decide)
  unfold PL at hx
  rw [t__law_right_32, ss_cons, s_spoil2, co _ rfl]
  have ft : fit (((plainI n).map (tabD n true)).length + 1) = true := decide_eq_true (by rw [List.length_map]; omega)
  simp only [ft, Bool.true_and, List.length_cons, List.length_nil, Nat.reduceAdd, Nat.reduceLT, decide_true, if_true]
  simp only [ss_cons, ss_nil, s_set, s_seto, s_par, s_unp, s_app, s_setr, s_setrp, s_ext, s_seti, s_drop, s_cond, s_for, s_ret, s_retN, s_frz, thenS_nx, thenS_rt, endF_rt, endF_nx, bind_ok', st_ok', asB_ok, of_some, List.set_cons_succ, List.set_cons_zero, List.getElem?_cons_zero, List.getElem?_cons_succ, List.length_cons, List.length_nil, if_true, setAll, ownAll, List.zip_cons_cons, List.zip_nil_left, List.zip_nil_right, List.foldl_cons, List.foldl_nil, Bool.false_eq_true, if_false, reduceIte, ev_cst, ev_var, ev_tup, ev_lst, ev_op, ev_neg, ev_cmp, ev_cmp2, ev_and, ev_or, ev_not, ev_ite, ev_call, ev_b1, ev_b2, ev_isa, ev_m1, ev_idx, ev_slB, ev_slL, ev_slH, ev_dic0, ev_sp, evs_nil, evs_cons, evAnd_one, evAnd_cons, evOr_one, evOr_cons, vx_view, vx_cst, vx_var, vx_glb, vx_tup, vx_lst, vx_op, vx_neg, vx_not, vx_cmp, vx_and, vx_ite, vx_call, vx_callk, vx_b1, vx_b2, vx_m1, vx_idx, vx_slB, vx_slL, vx_slH, vx_dic0, vx_sp, vx_cmp2, vx_isa, vx_or, cD_int, cD_str, cD_bl, cD_non, le_int, lt_int', gt_int', ge_int', is_non, isnt_non, eq_cmp, ne_cmp, in_cmp, nin_cmp, eqD_int, eqD_str, eqD_bl, add_int, sub_int, len_lst, len_tup, tup_lst, tup_tup, abs_int, int_int, goFor_some, items_seqL, items_seqT, Option.map_some, Bool.not_true, Bool.not_false, decide_true, decide_false]
  rw [t__law_right_33]
  simp only [ss_cons, ss_nil, s_set, s_seto, s_par, s_unp, s_app, s_setr, s_setrp, s_ext, s_seti, s_drop, s_cond, s_for, s_ret, s_retN, s_frz, thenS_nx, thenS_rt, endF_rt, endF_nx, bind_ok', st_ok', asB_ok, of_some, List.set_cons_succ, List.set_cons_zero, List.getElem?_cons_zero, List.getElem?_cons_succ, List.length_cons, List.length_nil, if_true, setAll, ownAll, List.zip_cons_cons, List.zip_nil_left, List.zip_nil_right, List.foldl_cons, List.foldl_nil, Bool.false_eq_true, if_false, reduceIte, ev_cst, ev_var, ev_tup, ev_lst, ev_op, ev_neg, ev_cmp, ev_cmp2, ev_and, ev_or, ev_not, ev_ite, ev_call, ev_b1, ev_b2, ev_isa, ev_m1, ev_idx, ev_slB, ev_slL, ev_slH, ev_dic0, ev_sp, evs_nil, evs_cons, evAnd_one, evAnd_cons, evOr_one, evOr_cons, vx_view, vx_cst, vx_var, vx_glb, vx_tup, vx_lst, vx_op, vx_neg, vx_not, vx_cmp, vx_and, vx_ite, vx_call, vx_callk, vx_b1, vx_b2, vx_m1, vx_idx, vx_slB, vx_slL, vx_slH, vx_dic0, vx_sp, vx_cmp2, vx_isa, vx_or, cD_int, cD_str, cD_bl, cD_non, le_int, lt_int', gt_int', ge_int', is_non, isnt_non, eq_cmp, ne_cmp, in_cmp, nin_cmp, eqD_int, eqD_str, eqD_bl, add_int, sub_int, len_lst, len_tup, tup_lst, tup_tup, abs_int, int_int, goFor_some, items_seqL, items_seqT, Option.map_some, Bool.not_true, Bool.not_false, decide_true, decide_false, pl, hx, PL]
end L89

set_option linter.all false
set_option maxRecDepth 100000
set_option maxHeartbeats 4000000
namespace L89
open PySem Mi L2
/-! A16: renaming in the law's run; sums of sayings. -/
theorem list_range {n : Nat} (h : n ≤ 1000) : spop .listRange (.int n) = some (.lst ((rngI n).map D.int)) := by
  have c : decide (0 ≤ (n : Int) ∧ (n : Int) ≤ 16777216) = true := by simp; omega
  refine (if_pos c).trans ?_
  rw [Int.toNat_natCast, rng0, rngI, List.map_map]
  rfl
theorem slL_n (xs : List D) (k : Nat) : slLI (.lst xs) (.int (k : Int)) = some (.lst (xs.drop k)) := slL_l xs k
theorem slH_n (xs : List D) (k : Nat) : slHI (.lst xs) (.int (k : Int)) = some (.lst (xs.take k)) := slH_l xs k
theorem rot_app {n a : Nat} (hn : n ≤ 5) : binop .Add (.lst (((rngI n).map D.int).drop a)) (.lst (((rngI n).map D.int).take a)) = some (.lst ((rot n a).map D.int)) := by
  rw [add_l (by
    have : (rngI n).length = n := by simp [rngI]
    rw [List.length_drop, List.length_take, List.length_map, this]
    omega)]
  simp [rot, List.map_drop, List.map_take]
theorem sort_num (ls : List Int) : numI (isort ls) = numI ls := numI_perm (isort_perm ls)
theorem mv_loop {k : Nat} (hk : 6 ≤ k) {m : Mu} {n : Nat} {os xs : List Int} (ho : Ord n os) (hx : xs.length = 2 ^ n) (v0 v1 a2 a3 a4 a5 a6 a7 a8 a9 a11 a12 a14 a15 a16 a17 a18 a19 a20 a21 a22 a23 a24 : Slot) :
    ∃ b20 b21, forR (forB (gg k) 1000 (.tp [20, 21]) b__law_right_1) (((lotsI n).zip xs).map fun q => .tup [lotD q.1, .int q.2]) [v0, v1, a2, a3, a4, a5, a6, a7, a8, a9, .val (.tup (os.map D.int)), a11, a12, .own ((List.replicate (lotsI n).length (0 : Int)).map D.int), a14, a15, a16, a17, a18, a19, a20, a21, a22, a23, a24] m
      = .nx [v0, v1, a2, a3, a4, a5, a6, a7, a8, a9, .val (.tup (os.map D.int)), a11, a12, .own ((mvd n os xs).map D.int), a14, a15, a16, a17, a18, a19, b20, b21, a22, a23, a24] m := by
  have zt := zip_th ho (l := xs)
  have ll := lots_len n
  obtain ⟨r', e, b20, b21, rfl⟩ := set_loop (f := forB (gg k) 1000 (.tp [20, 21]) b__law_right_1) (e := fun q : List Int × Int => .tup [lotD q.1, .int q.2]) (m := m) (fun q => numI (q.1.map (osf os))) (fun q => q.2)
    (fun acc r => ∃ b20 b21, r = [v0, v1, a2, a3, a4, a5, a6, a7, a8, a9, .val (.tup (os.map D.int)), a11, a12, .own (acc.map D.int), a14, a15, a16, a17, a18, a19, b20, b21, a22, a23, a24]) (2 ^ n) ((lotsI n).zip xs) (List.replicate (lotsI n).length 0) (by rw [List.length_replicate, ll])
    [v0, v1, a2, a3, a4, a5, a6, a7, a8, a9, .val (.tup (os.map D.int)), a11, a12, .own ((List.replicate (lotsI n).length (0 : Int)).map D.int), a14, a15, a16, a17, a18, a19, a20, a21, a22, a23, a24] ⟨_, _, rfl⟩ (by
    rintro q hq acc r hN ⟨a20, a21, rfl⟩
    obtain ⟨h1, h2, h3⟩ := zt q hq
    have hq := (List.of_mem_zip (a := q.1) (b := q.2) hq).1
    have ln := l_number (k := k) (by omega) m (ls := isort (q.1.map (osf os))) h1.sort
    rw [sort_num] at ln
    have ix := ix_nat (N := acc.length) (j := numI (q.1.map (osf os))) (by rw [hN]; exact h3)
    have oc : ev (gg k) x__law_right_7 _ m = _ := ord_comp (k := k) (r := [v0, v1, a2, a3, a4, a5, a6, a7, a8, a9, .val (.tup (os.map D.int)), a11, a12, .own (acc.map D.int), a14, a15, a16, a17, a18, a19, .val (lotD q.1), .val (.int q.2), a22, a23, a24]) (m := m) ho hq 24 20 (by simp) (by simp) (by decide) 10 (by decide) (by simp) (Str.ofString "thing")
    have so : b1op .sorted (.lst ((q.1.map (osf os)).map D.int)) = some (.lst ((isort (q.1.map (osf os))).map D.int)) := by simp only [b1op, ints_map]
    refine ⟨[v0, v1, a2, a3, a4, a5, a6, a7, a8, a9, .val (.tup (os.map D.int)), a11, a12, .own ((acc.set (numI (q.1.map (osf os))) q.2).map D.int), a14, a15, a16, a17, a18, a19, .val (lotD q.1), .val (.int q.2), a22, a23, a24], ?_, _, _, rfl⟩
    unfold forB b__law_right_1
    simp only [bindT, List.length_cons, List.length_nil, if_true, List.zip_cons_cons, List.zip_nil_right, List.foldl_cons, List.foldl_nil, List.set_cons_succ, List.set_cons_zero]
    unfold lotD at ln
    simp only [ss_cons, ss_nil, s_set, s_seto, s_par, s_unp, s_app, s_setr, s_setrp, s_ext, s_seti, s_drop, s_cond, s_for, s_ret, s_retN, s_frz, thenS_nx, thenS_rt, endF_rt, endF_nx, bind_ok', st_ok', asB_ok, of_some, List.set_cons_succ, List.set_cons_zero, List.getElem?_cons_zero, List.getElem?_cons_succ, List.length_cons, List.length_nil, if_true, setAll, ownAll, List.zip_cons_cons, List.zip_nil_left, List.zip_nil_right, List.foldl_cons, List.foldl_nil, Bool.false_eq_true, if_false, reduceIte, ev_cst, ev_var, ev_tup, ev_lst, ev_op, ev_neg, ev_cmp, ev_cmp2, ev_and, ev_or, ev_not, ev_ite, ev_call, ev_b1, ev_b2, ev_isa, ev_m1, ev_idx, ev_slB, ev_slL, ev_slH, ev_dic0, ev_sp, evs_nil, evs_cons, evAnd_one, evAnd_cons, evOr_one, evOr_cons, vx_view, vx_cst, vx_var, vx_glb, vx_tup, vx_lst, vx_op, vx_neg, vx_not, vx_cmp, vx_and, vx_ite, vx_call, vx_callk, vx_b1, vx_b2, vx_m1, vx_idx, vx_slB, vx_slL, vx_slH, vx_dic0, vx_sp, vx_cmp2, vx_isa, vx_or, cD_int, cD_str, cD_bl, cD_non, le_int, lt_int', gt_int', ge_int', is_non, isnt_non, eq_cmp, ne_cmp, in_cmp, nin_cmp, eqD_int, eqD_str, eqD_bl, add_int, sub_int, len_lst, len_tup, tup_lst, tup_tup, abs_int, int_int, goFor_some, items_seqL, items_seqT, Option.map_some, Bool.not_true, Bool.not_false, decide_true, decide_false, v_x__law_right_7, oc, so, ln, List.length_map, ix, set_map])
  refine ⟨b20, b21, e.trans ?_⟩
  unfold mvd
  rw [ll]
theorem nice_both {n : Nat} (hn : n ≤ 5) {l : List Int} (hl : l.length = 2 ^ n) (h : Bd 1000000 l) : ∃ x, b1op .repr (.lst [tabD n true l, tabD n true l]) = some (.str x) := rep2 (nice_tab hn hl h) (by decide) (by decide)
theorem twice (d : D) : binop .Mult (.lst [d]) (.int 2) = some (.lst [d, d]) := rfl
theorem part_C {k : Nat} (hk : 8 ≤ k) {L p n : Nat} {m : Mu} (h : Pots PB L m) (hp : p < L) (h2 : 2 ≤ n) (h4 : n ≤ 4) {xs ws : List Int} (hx : Say n xs) (hw : Tab n ws) (a4 a5 a6 a7 a8 a9 a10 a11 a12 a13 a14 a15 a19 a20 a21 a22 a23 a24 : Slot) :
    ∃ m', evSs (gg k) 1000 t__law_right_19 [.val (.ref p), .val (.int n), .val (tabD n true ws), .val (.int (dot xs ws)), a4, a5, a6, a7, a8, a9, a10, a11, a12, a13, a14, a15, .val (PL n), .val (LL n), .val (tabD n true xs), a19, a20, a21, a22, a23, a24] m = .rt (.bl true) m' ∧ Pots PB L m' := by
  obtain ⟨c, m', e, ⟨c0, c1⟩, p1⟩ := l_draw (k := k) (by omega) h hp (many := n) (by omega) (by omega)
  obtain ⟨a, rfl⟩ : ∃ a : Nat, c = a := ⟨c.toNat, by omega⟩
  refine ⟨m', ?_, p1⟩
  have ho := rot_ord h2 h4 (a := a) (by omega)
  have sr := r_saying_renamed (k := k) (by omega) m' hx ho
  have hx' : Say n (mvd n (rot n a) xs) := ⟨h2, h4, mvd_len, mvd_mem (by decide) hx.bd⟩
  have hw' : Tab n (mvd n (rot n a) ws) := ⟨by omega, by omega, mvd_len, mvd_mem (by decide) hw.bd⟩
  have tr := r_renamed (k := k) (by omega) m' hw ho
  have sf := r_sum_for (k := k) (by omega) m' hx' hw'
  rw [mvd_perm h2 h4 (by omega) hx.len hw.len] at sf
  obtain ⟨x, hr⟩ := nice_both (n := n) (by omega) hx'.len (hx'.bd.mono (by decide))
  have l32 := len32 (n := n) (by omega)
  have mr := mul_rep (lotsI n).length (by rw [lots_len]; omega)
  have iz := items_zipL lotD D.int (lotsI n) xs
  obtain ⟨b20, b21, el⟩ := mv_loop (k := k) (by omega) (m := m') ho hx.len (.val (.ref p)) (.val (.int n)) (.val (tabD n true ws)) (.val (.int (dot xs ws))) a4 a5 a6 a7 a8 a9 (.val (.int a)) (.val (tabD n true (mvd n (rot n a) xs))) a14 a15 (.val (PL n)) (.val (LL n)) (.val (tabD n true xs)) a19 a20 a21 a22 a23 a24
  rw [t__law_right_19]
  simp only [ss_cons, ss_nil, s_set, s_seto, s_par, s_unp, s_app, s_setr, s_setrp, s_ext, s_seti, s_drop, s_cond, s_for, s_ret, s_retN, s_frz, thenS_nx, thenS_rt, endF_rt, endF_nx, bind_ok', st_ok', asB_ok, of_some, List.set_cons_succ, List.set_cons_zero, List.getElem?_cons_zero, List.getElem?_cons_succ, List.length_cons, List.length_nil, if_true, setAll, ownAll, List.zip_cons_cons, List.zip_nil_left, List.zip_nil_right, List.foldl_cons, List.foldl_nil, Bool.false_eq_true, if_false, reduceIte, ev_cst, ev_var, ev_tup, ev_lst, ev_op, ev_neg, ev_cmp, ev_cmp2, ev_and, ev_or, ev_not, ev_ite, ev_call, ev_b1, ev_b2, ev_isa, ev_m1, ev_idx, ev_slB, ev_slL, ev_slH, ev_dic0, ev_sp, evs_nil, evs_cons, evAnd_one, evAnd_cons, evOr_one, evOr_cons, vx_view, vx_cst, vx_var, vx_glb, vx_tup, vx_lst, vx_op, vx_neg, vx_not, vx_cmp, vx_and, vx_ite, vx_call, vx_callk, vx_b1, vx_b2, vx_m1, vx_idx, vx_slB, vx_slL, vx_slH, vx_dic0, vx_sp, vx_cmp2, vx_isa, vx_or, cD_int, cD_str, cD_bl, cD_non, le_int, lt_int', gt_int', ge_int', is_non, isnt_non, eq_cmp, ne_cmp, in_cmp, nin_cmp, eqD_int, eqD_str, eqD_bl, add_int, sub_int, len_lst, len_tup, tup_lst, tup_tup, abs_int, int_int, goFor_some, items_seqL, items_seqT, Option.map_some, Bool.not_true, Bool.not_false, decide_true, decide_false, list_range (n := n) (by omega)]
  rw [t__law_right_20]
  simp only [ss_cons, ss_nil, s_set, s_seto, s_par, s_unp, s_app, s_setr, s_setrp, s_ext, s_seti, s_drop, s_cond, s_for, s_ret, s_retN, s_frz, thenS_nx, thenS_rt, endF_rt, endF_nx, bind_ok', st_ok', asB_ok, of_some, List.set_cons_succ, List.set_cons_zero, List.getElem?_cons_zero, List.getElem?_cons_succ, List.length_cons, List.length_nil, if_true, setAll, ownAll, List.zip_cons_cons, List.zip_nil_left, List.zip_nil_right, List.foldl_cons, List.foldl_nil, Bool.false_eq_true, if_false, reduceIte, ev_cst, ev_var, ev_tup, ev_lst, ev_op, ev_neg, ev_cmp, ev_cmp2, ev_and, ev_or, ev_not, ev_ite, ev_call, ev_b1, ev_b2, ev_isa, ev_m1, ev_idx, ev_slB, ev_slL, ev_slH, ev_dic0, ev_sp, evs_nil, evs_cons, evAnd_one, evAnd_cons, evOr_one, evOr_cons, vx_view, vx_cst, vx_var, vx_glb, vx_tup, vx_lst, vx_op, vx_neg, vx_not, vx_cmp, vx_and, vx_ite, vx_call, vx_callk, vx_b1, vx_b2, vx_m1, vx_idx, vx_slB, vx_slL, vx_slH, vx_dic0, vx_sp, vx_cmp2, vx_isa, vx_or, cD_int, cD_str, cD_bl, cD_non, le_int, lt_int', gt_int', ge_int', is_non, isnt_non, eq_cmp, ne_cmp, in_cmp, nin_cmp, eqD_int, eqD_str, eqD_bl, add_int, sub_int, len_lst, len_tup, tup_lst, tup_tup, abs_int, int_int, goFor_some, items_seqL, items_seqT, Option.map_some, Bool.not_true, Bool.not_false, decide_true, decide_false, e]
  rw [t__law_right_21]
  simp only [ss_cons, ss_nil, s_set, s_seto, s_par, s_unp, s_app, s_setr, s_setrp, s_ext, s_seti, s_drop, s_cond, s_for, s_ret, s_retN, s_frz, thenS_nx, thenS_rt, endF_rt, endF_nx, bind_ok', st_ok', asB_ok, of_some, List.set_cons_succ, List.set_cons_zero, List.getElem?_cons_zero, List.getElem?_cons_succ, List.length_cons, List.length_nil, if_true, setAll, ownAll, List.zip_cons_cons, List.zip_nil_left, List.zip_nil_right, List.foldl_cons, List.foldl_nil, Bool.false_eq_true, if_false, reduceIte, ev_cst, ev_var, ev_tup, ev_lst, ev_op, ev_neg, ev_cmp, ev_cmp2, ev_and, ev_or, ev_not, ev_ite, ev_call, ev_b1, ev_b2, ev_isa, ev_m1, ev_idx, ev_slB, ev_slL, ev_slH, ev_dic0, ev_sp, evs_nil, evs_cons, evAnd_one, evAnd_cons, evOr_one, evOr_cons, vx_view, vx_cst, vx_var, vx_glb, vx_tup, vx_lst, vx_op, vx_neg, vx_not, vx_cmp, vx_and, vx_ite, vx_call, vx_callk, vx_b1, vx_b2, vx_m1, vx_idx, vx_slB, vx_slL, vx_slH, vx_dic0, vx_sp, vx_cmp2, vx_isa, vx_or, cD_int, cD_str, cD_bl, cD_non, le_int, lt_int', gt_int', ge_int', is_non, isnt_non, eq_cmp, ne_cmp, in_cmp, nin_cmp, eqD_int, eqD_str, eqD_bl, add_int, sub_int, len_lst, len_tup, tup_lst, tup_tup, abs_int, int_int, goFor_some, items_seqL, items_seqT, Option.map_some, Bool.not_true, Bool.not_false, decide_true, decide_false, slL_n, slH_n, rot_app (n := n) (by omega)]
  rw [t__law_right_22]
  simp only [ss_cons, ss_nil, s_set, s_seto, s_par, s_unp, s_app, s_setr, s_setrp, s_ext, s_seti, s_drop, s_cond, s_for, s_ret, s_retN, s_frz, thenS_nx, thenS_rt, endF_rt, endF_nx, bind_ok', st_ok', asB_ok, of_some, List.set_cons_succ, List.set_cons_zero, List.getElem?_cons_zero, List.getElem?_cons_succ, List.length_cons, List.length_nil, if_true, setAll, ownAll, List.zip_cons_cons, List.zip_nil_left, List.zip_nil_right, List.foldl_cons, List.foldl_nil, Bool.false_eq_true, if_false, reduceIte, ev_cst, ev_var, ev_tup, ev_lst, ev_op, ev_neg, ev_cmp, ev_cmp2, ev_and, ev_or, ev_not, ev_ite, ev_call, ev_b1, ev_b2, ev_isa, ev_m1, ev_idx, ev_slB, ev_slL, ev_slH, ev_dic0, ev_sp, evs_nil, evs_cons, evAnd_one, evAnd_cons, evOr_one, evOr_cons, vx_view, vx_cst, vx_var, vx_glb, vx_tup, vx_lst, vx_op, vx_neg, vx_not, vx_cmp, vx_and, vx_ite, vx_call, vx_callk, vx_b1, vx_b2, vx_m1, vx_idx, vx_slB, vx_slL, vx_slH, vx_dic0, vx_sp, vx_cmp2, vx_isa, vx_or, cD_int, cD_str, cD_bl, cD_non, le_int, lt_int', gt_int', ge_int', is_non, isnt_non, eq_cmp, ne_cmp, in_cmp, nin_cmp, eqD_int, eqD_str, eqD_bl, add_int, sub_int, len_lst, len_tup, tup_lst, tup_tup, abs_int, int_int, goFor_some, items_seqL, items_seqT, Option.map_some, Bool.not_true, Bool.not_false, decide_true, decide_false, sr]
  rw [t__law_right_23]
  simp only [ss_cons, ss_nil, s_set, s_seto, s_par, s_unp, s_app, s_setr, s_setrp, s_ext, s_seti, s_drop, s_cond, s_for, s_ret, s_retN, s_frz, thenS_nx, thenS_rt, endF_rt, endF_nx, bind_ok', st_ok', asB_ok, of_some, List.set_cons_succ, List.set_cons_zero, List.getElem?_cons_zero, List.getElem?_cons_succ, List.length_cons, List.length_nil, if_true, setAll, ownAll, List.zip_cons_cons, List.zip_nil_left, List.zip_nil_right, List.foldl_cons, List.foldl_nil, Bool.false_eq_true, if_false, reduceIte, ev_cst, ev_var, ev_tup, ev_lst, ev_op, ev_neg, ev_cmp, ev_cmp2, ev_and, ev_or, ev_not, ev_ite, ev_call, ev_b1, ev_b2, ev_isa, ev_m1, ev_idx, ev_slB, ev_slL, ev_slH, ev_dic0, ev_sp, evs_nil, evs_cons, evAnd_one, evAnd_cons, evOr_one, evOr_cons, vx_view, vx_cst, vx_var, vx_glb, vx_tup, vx_lst, vx_op, vx_neg, vx_not, vx_cmp, vx_and, vx_ite, vx_call, vx_callk, vx_b1, vx_b2, vx_m1, vx_idx, vx_slB, vx_slL, vx_slH, vx_dic0, vx_sp, vx_cmp2, vx_isa, vx_or, cD_int, cD_str, cD_bl, cD_non, le_int, lt_int', gt_int', ge_int', is_non, isnt_non, eq_cmp, ne_cmp, in_cmp, nin_cmp, eqD_int, eqD_str, eqD_bl, add_int, sub_int, len_lst, len_tup, tup_lst, tup_tup, abs_int, int_int, goFor_some, items_seqL, items_seqT, Option.map_some, Bool.not_true, Bool.not_false, decide_true, decide_false, LL, List.length_map, mr]
  rw [t__law_right_24]
  simp only [ss_cons, ss_nil, s_set, s_seto, s_par, s_unp, s_app, s_setr, s_setrp, s_ext, s_seti, s_drop, s_cond, s_for, s_ret, s_retN, s_frz, thenS_nx, thenS_rt, endF_rt, endF_nx, bind_ok', st_ok', asB_ok, of_some, List.set_cons_succ, List.set_cons_zero, List.getElem?_cons_zero, List.getElem?_cons_succ, List.length_cons, List.length_nil, if_true, setAll, ownAll, List.zip_cons_cons, List.zip_nil_left, List.zip_nil_right, List.foldl_cons, List.foldl_nil, Bool.false_eq_true, if_false, reduceIte, ev_cst, ev_var, ev_tup, ev_lst, ev_op, ev_neg, ev_cmp, ev_cmp2, ev_and, ev_or, ev_not, ev_ite, ev_call, ev_b1, ev_b2, ev_isa, ev_m1, ev_idx, ev_slB, ev_slL, ev_slH, ev_dic0, ev_sp, evs_nil, evs_cons, evAnd_one, evAnd_cons, evOr_one, evOr_cons, vx_view, vx_cst, vx_var, vx_glb, vx_tup, vx_lst, vx_op, vx_neg, vx_not, vx_cmp, vx_and, vx_ite, vx_call, vx_callk, vx_b1, vx_b2, vx_m1, vx_idx, vx_slB, vx_slL, vx_slH, vx_dic0, vx_sp, vx_cmp2, vx_isa, vx_or, cD_int, cD_str, cD_bl, cD_non, le_int, lt_int', gt_int', ge_int', is_non, isnt_non, eq_cmp, ne_cmp, in_cmp, nin_cmp, eqD_int, eqD_str, eqD_bl, add_int, sub_int, len_lst, len_tup, tup_lst, tup_tup, abs_int, int_int, goFor_some, items_seqL, items_seqT, Option.map_some, Bool.not_true, Bool.not_false, decide_true, decide_false, idx1_tab, seqD, iz]
  rw [show D.lst ((lotsI n).map lotD) = LL n from rfl, el]
  simp only [ss_cons, ss_nil, s_set, s_seto, s_par, s_unp, s_app, s_setr, s_setrp, s_ext, s_seti, s_drop, s_cond, s_for, s_ret, s_retN, s_frz, thenS_nx, thenS_rt, endF_rt, endF_nx, bind_ok', st_ok', asB_ok, of_some, List.set_cons_succ, List.set_cons_zero, List.getElem?_cons_zero, List.getElem?_cons_succ, List.length_cons, List.length_nil, if_true, setAll, ownAll, List.zip_cons_cons, List.zip_nil_left, List.zip_nil_right, List.foldl_cons, List.foldl_nil, Bool.false_eq_true, if_false, reduceIte, ev_cst, ev_var, ev_tup, ev_lst, ev_op, ev_neg, ev_cmp, ev_cmp2, ev_and, ev_or, ev_not, ev_ite, ev_call, ev_b1, ev_b2, ev_isa, ev_m1, ev_idx, ev_slB, ev_slL, ev_slH, ev_dic0, ev_sp, evs_nil, evs_cons, evAnd_one, evAnd_cons, evOr_one, evOr_cons, vx_view, vx_cst, vx_var, vx_glb, vx_tup, vx_lst, vx_op, vx_neg, vx_not, vx_cmp, vx_and, vx_ite, vx_call, vx_callk, vx_b1, vx_b2, vx_m1, vx_idx, vx_slB, vx_slL, vx_slH, vx_dic0, vx_sp, vx_cmp2, vx_isa, vx_or, cD_int, cD_str, cD_bl, cD_non, le_int, lt_int', gt_int', ge_int', is_non, isnt_non, eq_cmp, ne_cmp, in_cmp, nin_cmp, eqD_int, eqD_str, eqD_bl, add_int, sub_int, len_lst, len_tup, tup_lst, tup_tup, abs_int, int_int, goFor_some, items_seqL, items_seqT, Option.map_some, Bool.not_true, Bool.not_false, decide_true, decide_false]
  rw [t__law_right_25]
  simp only [ss_cons, ss_nil, s_set, s_seto, s_par, s_unp, s_app, s_setr, s_setrp, s_ext, s_seti, s_drop, s_cond, s_for, s_ret, s_retN, s_frz, thenS_nx, thenS_rt, endF_rt, endF_nx, bind_ok', st_ok', asB_ok, of_some, List.set_cons_succ, List.set_cons_zero, List.getElem?_cons_zero, List.getElem?_cons_succ, List.length_cons, List.length_nil, if_true, setAll, ownAll, List.zip_cons_cons, List.zip_nil_left, List.zip_nil_right, List.foldl_cons, List.foldl_nil, Bool.false_eq_true, if_false, reduceIte, ev_cst, ev_var, ev_tup, ev_lst, ev_op, ev_neg, ev_cmp, ev_cmp2, ev_and, ev_or, ev_not, ev_ite, ev_call, ev_b1, ev_b2, ev_isa, ev_m1, ev_idx, ev_slB, ev_slL, ev_slH, ev_dic0, ev_sp, evs_nil, evs_cons, evAnd_one, evAnd_cons, evOr_one, evOr_cons, vx_view, vx_cst, vx_var, vx_glb, vx_tup, vx_lst, vx_op, vx_neg, vx_not, vx_cmp, vx_and, vx_ite, vx_call, vx_callk, vx_b1, vx_b2, vx_m1, vx_idx, vx_slB, vx_slL, vx_slH, vx_dic0, vx_sp, vx_cmp2, vx_isa, vx_or, cD_int, cD_str, cD_bl, cD_non, le_int, lt_int', gt_int', ge_int', is_non, isnt_non, eq_cmp, ne_cmp, in_cmp, nin_cmp, eqD_int, eqD_str, eqD_bl, add_int, sub_int, len_lst, len_tup, tup_lst, tup_tup, abs_int, int_int, goFor_some, items_seqL, items_seqT, Option.map_some, Bool.not_true, Bool.not_false, decide_true, decide_false]
  rw [t__law_right_26]
  have tb : D.tup [.int (n : Int), .lst ((mvd n (rot n a) xs).map D.int)] = tabD n true (mvd n (rot n a) xs) := rfl
  simp only [ss_cons, ss_nil, s_set, s_seto, s_par, s_unp, s_app, s_setr, s_setrp, s_ext, s_seti, s_drop, s_cond, s_for, s_ret, s_retN, s_frz, thenS_nx, thenS_rt, endF_rt, endF_nx, bind_ok', st_ok', asB_ok, of_some, List.set_cons_succ, List.set_cons_zero, List.getElem?_cons_zero, List.getElem?_cons_succ, List.length_cons, List.length_nil, if_true, setAll, ownAll, List.zip_cons_cons, List.zip_nil_left, List.zip_nil_right, List.foldl_cons, List.foldl_nil, Bool.false_eq_true, if_false, reduceIte, ev_cst, ev_var, ev_tup, ev_lst, ev_op, ev_neg, ev_cmp, ev_cmp2, ev_and, ev_or, ev_not, ev_ite, ev_call, ev_b1, ev_b2, ev_isa, ev_m1, ev_idx, ev_slB, ev_slL, ev_slH, ev_dic0, ev_sp, evs_nil, evs_cons, evAnd_one, evAnd_cons, evOr_one, evOr_cons, vx_view, vx_cst, vx_var, vx_glb, vx_tup, vx_lst, vx_op, vx_neg, vx_not, vx_cmp, vx_and, vx_ite, vx_call, vx_callk, vx_b1, vx_b2, vx_m1, vx_idx, vx_slB, vx_slL, vx_slH, vx_dic0, vx_sp, vx_cmp2, vx_isa, vx_or, cD_int, cD_str, cD_bl, cD_non, le_int, lt_int', gt_int', ge_int', is_non, isnt_non, eq_cmp, ne_cmp, in_cmp, nin_cmp, eqD_int, eqD_str, eqD_bl, add_int, sub_int, len_lst, len_tup, tup_lst, tup_tup, abs_int, int_int, goFor_some, items_seqL, items_seqT, Option.map_some, Bool.not_true, Bool.not_false, decide_true, decide_false, ev_callk, permD, List.foldr_cons, List.foldr_nil, List.nil_append, sr, tb, twice, hr]
  rw [t__law_right_27]
  simp only [ss_cons, ss_nil, s_set, s_seto, s_par, s_unp, s_app, s_setr, s_setrp, s_ext, s_seti, s_drop, s_cond, s_for, s_ret, s_retN, s_frz, thenS_nx, thenS_rt, endF_rt, endF_nx, bind_ok', st_ok', asB_ok, of_some, List.set_cons_succ, List.set_cons_zero, List.getElem?_cons_zero, List.getElem?_cons_succ, List.length_cons, List.length_nil, if_true, setAll, ownAll, List.zip_cons_cons, List.zip_nil_left, List.zip_nil_right, List.foldl_cons, List.foldl_nil, Bool.false_eq_true, if_false, reduceIte, ev_cst, ev_var, ev_tup, ev_lst, ev_op, ev_neg, ev_cmp, ev_cmp2, ev_and, ev_or, ev_not, ev_ite, ev_call, ev_b1, ev_b2, ev_isa, ev_m1, ev_idx, ev_slB, ev_slL, ev_slH, ev_dic0, ev_sp, evs_nil, evs_cons, evAnd_one, evAnd_cons, evOr_one, evOr_cons, vx_view, vx_cst, vx_var, vx_glb, vx_tup, vx_lst, vx_op, vx_neg, vx_not, vx_cmp, vx_and, vx_ite, vx_call, vx_callk, vx_b1, vx_b2, vx_m1, vx_idx, vx_slB, vx_slL, vx_slH, vx_dic0, vx_sp, vx_cmp2, vx_isa, vx_or, cD_int, cD_str, cD_bl, cD_non, le_int, lt_int', gt_int', ge_int', is_non, isnt_non, eq_cmp, ne_cmp, in_cmp, nin_cmp, eqD_int, eqD_str, eqD_bl, add_int, sub_int, len_lst, len_tup, tup_lst, tup_tup, abs_int, int_int, goFor_some, items_seqL, items_seqT, Option.map_some, Bool.not_true, Bool.not_false, decide_true, decide_false, tr, sf]
  exact part_D hk p1 hp h2 h4 hx _ _ _ _ _ _ _ _ _ _ _ _ _ _ _ _ _ _ _ _
end L89

set_option linter.all false
set_option maxRecDepth 100000
set_option maxHeartbeats 4000000
namespace L89
open PySem Mi L2
/-! A17: sums of two sayings; what is good, in the law's run. -/
theorem part_B {k : Nat} (hk : 8 ≤ k) {L p n : Nat} {m : Mu} (h : Pots PB L m) (hp : p < L) (h2 : 2 ≤ n) (h4 : n ≤ 4) {xs ws ys : List Int} (hx : Say n xs) (hy : Say n ys) (hw : Tab n ws) (a4 a5 a6 a7 a8 a9 a10 a11 a12 a13 a14 a15 a20 a21 a22 a23 a24 : Slot) :
    ∃ m', evSs (gg k) 1000 t__law_right_17 [.val (.ref p), .val (.int n), .val (tabD n true ws), .val (.int (dot xs ws)), a4, a5, a6, a7, a8, a9, a10, a11, a12, a13, a14, a15, .val (PL n), .val (LL n), .val (tabD n true xs), .val (tabD n true ys), a20, a21, a22, a23, a24] m = .rt (.bl true) m' ∧ Pots PB L m' := by
  have l32 := len32 (n := n) (by omega)
  have al : (addL xs ys).length = 2 ^ n := add_len hx.len hy.len
  have c1 : ev (gg k) x__law_right_5 [.val (.ref p), .val (.int n), .val (tabD n true ws), .val (.int (dot xs ws)), a4, a5, a6, a7, a8, a9, a10, a11, a12, a13, a14, a15, .val (PL n), .val (LL n), .val (tabD n true xs), .val (tabD n true ys), a20, a21, a22, a23, a24] m = .ok (.lst ((addL xs ys).map D.int)) m := by
    rw [x__law_right_5, add_comp (l := xs) (k := ys) (fun d e => ⟨_, rfl, rfl, rfl⟩) (by
      simp only [evx_cons, evx_nil]
      simp only [ss_cons, ss_nil, s_set, s_seto, s_par, s_unp, s_app, s_setr, s_setrp, s_ext, s_seti, s_drop, s_cond, s_for, s_ret, s_retN, s_frz, thenS_nx, thenS_rt, endF_rt, endF_nx, bind_ok', st_ok', asB_ok, of_some, List.set_cons_succ, List.set_cons_zero, List.getElem?_cons_zero, List.getElem?_cons_succ, List.length_cons, List.length_nil, if_true, setAll, ownAll, List.zip_cons_cons, List.zip_nil_left, List.zip_nil_right, List.foldl_cons, List.foldl_nil, Bool.false_eq_true, if_false, reduceIte, ev_cst, ev_var, ev_tup, ev_lst, ev_op, ev_neg, ev_cmp, ev_cmp2, ev_and, ev_or, ev_not, ev_ite, ev_call, ev_b1, ev_b2, ev_isa, ev_m1, ev_idx, ev_slB, ev_slL, ev_slH, ev_dic0, ev_sp, evs_nil, evs_cons, evAnd_one, evAnd_cons, evOr_one, evOr_cons, vx_view, vx_cst, vx_var, vx_glb, vx_tup, vx_lst, vx_op, vx_neg, vx_not, vx_cmp, vx_and, vx_ite, vx_call, vx_callk, vx_b1, vx_b2, vx_m1, vx_idx, vx_slB, vx_slL, vx_slH, vx_dic0, vx_sp, vx_cmp2, vx_isa, vx_or, cD_int, cD_str, cD_bl, cD_non, le_int, lt_int', gt_int', ge_int', is_non, isnt_non, eq_cmp, ne_cmp, in_cmp, nin_cmp, eqD_int, eqD_str, eqD_bl, add_int, sub_int, len_lst, len_tup, tup_lst, tup_tup, abs_int, int_int, goFor_some, items_seqL, items_seqT, Option.map_some, Bool.not_true, Bool.not_false, decide_true, decide_false, idx1_tab, seqD]) (by rw [hx.len]; omega)]
  have c2 : ∀ a10, ev (gg k) x__law_right_6 [.val (.ref p), .val (.int n), .val (tabD n true ws), .val (.int (dot xs ws)), a4, a5, a6, a7, a8, .val (.lst ((addL xs ys).map D.int)), a10, a11, a12, a13, a14, a15, .val (PL n), .val (LL n), .val (tabD n true xs), .val (tabD n true ys), a20, a21, a22, a23, a24] m = .ok (.lst ((absL (addL xs ys)).map D.int)) m := fun a10 => by
    rw [x__law_right_6, comp_map (addL xs ys) D.int (fun i => .int (if i < 0 then -i else i)) (ds := [.lst ((addL xs ys).map D.int)]) (by
      simp only [evx_cons, evx_nil]
      simp only [ss_cons, ss_nil, s_set, s_seto, s_par, s_unp, s_app, s_setr, s_setrp, s_ext, s_seti, s_drop, s_cond, s_for, s_ret, s_retN, s_frz, thenS_nx, thenS_rt, endF_rt, endF_nx, bind_ok', st_ok', asB_ok, of_some, List.set_cons_succ, List.set_cons_zero, List.getElem?_cons_zero, List.getElem?_cons_succ, List.length_cons, List.length_nil, if_true, setAll, ownAll, List.zip_cons_cons, List.zip_nil_left, List.zip_nil_right, List.foldl_cons, List.foldl_nil, Bool.false_eq_true, if_false, reduceIte, ev_cst, ev_var, ev_tup, ev_lst, ev_op, ev_neg, ev_cmp, ev_cmp2, ev_and, ev_or, ev_not, ev_ite, ev_call, ev_b1, ev_b2, ev_isa, ev_m1, ev_idx, ev_slB, ev_slL, ev_slH, ev_dic0, ev_sp, evs_nil, evs_cons, evAnd_one, evAnd_cons, evOr_one, evOr_cons, vx_view, vx_cst, vx_var, vx_glb, vx_tup, vx_lst, vx_op, vx_neg, vx_not, vx_cmp, vx_and, vx_ite, vx_call, vx_callk, vx_b1, vx_b2, vx_m1, vx_idx, vx_slB, vx_slL, vx_slH, vx_dic0, vx_sp, vx_cmp2, vx_isa, vx_or, cD_int, cD_str, cD_bl, cD_non, le_int, lt_int', gt_int', ge_int', is_non, isnt_non, eq_cmp, ne_cmp, in_cmp, nin_cmp, eqD_int, eqD_str, eqD_bl, add_int, sub_int, len_lst, len_tup, tup_lst, tup_tup, abs_int, int_int, goFor_some, items_seqL, items_seqT, Option.map_some, Bool.not_true, Bool.not_false, decide_true, decide_false]) rfl (fun x _ => ⟨_, rfl, by
        simp only [List.map_cons, List.map_nil, wipe_cons, wipe_nil]
        simp only [ss_cons, ss_nil, s_set, s_seto, s_par, s_unp, s_app, s_setr, s_setrp, s_ext, s_seti, s_drop, s_cond, s_for, s_ret, s_retN, s_frz, thenS_nx, thenS_rt, endF_rt, endF_nx, bind_ok', st_ok', asB_ok, of_some, List.set_cons_succ, List.set_cons_zero, List.getElem?_cons_zero, List.getElem?_cons_succ, List.length_cons, List.length_nil, if_true, setAll, ownAll, List.zip_cons_cons, List.zip_nil_left, List.zip_nil_right, List.foldl_cons, List.foldl_nil, Bool.false_eq_true, if_false, reduceIte, ev_cst, ev_var, ev_tup, ev_lst, ev_op, ev_neg, ev_cmp, ev_cmp2, ev_and, ev_or, ev_not, ev_ite, ev_call, ev_b1, ev_b2, ev_isa, ev_m1, ev_idx, ev_slB, ev_slL, ev_slH, ev_dic0, ev_sp, evs_nil, evs_cons, evAnd_one, evAnd_cons, evOr_one, evOr_cons, vx_view, vx_cst, vx_var, vx_glb, vx_tup, vx_lst, vx_op, vx_neg, vx_not, vx_cmp, vx_and, vx_ite, vx_call, vx_callk, vx_b1, vx_b2, vx_m1, vx_idx, vx_slB, vx_slL, vx_slH, vx_dic0, vx_sp, vx_cmp2, vx_isa, vx_or, cD_int, cD_str, cD_bl, cD_non, le_int, lt_int', gt_int', ge_int', is_non, isnt_non, eq_cmp, ne_cmp, in_cmp, nin_cmp, eqD_int, eqD_str, eqD_bl, add_int, sub_int, len_lst, len_tup, tup_lst, tup_tup, abs_int, int_int, goFor_some, items_seqL, items_seqT, Option.map_some, Bool.not_true, Bool.not_false, decide_true, decide_false]⟩) (by omega), absL, List.map_map]
    rfl
  obtain ⟨v, hv⟩ : ∃ v, maxL (absL (addL xs ys)) = some v := by
    have : (absL (addL xs ys)).length = 2 ^ n := by rw [absL, List.length_map, al]
    have p0 := two_ne n
    cases hq : absL (addL xs ys) with
    | nil =>
      rw [hq] at this
      simp at this
      omega
    | cons a r => exact ⟨_, rfl⟩
  have C := fun (a9 : Slot) => part_C hk h hp h2 h4 hx hw a4 a5 a6 a7 a8 a9 a10 a11 a12 a13 a14 a15 (.val (tabD n true ys)) a20 a21 a22 a23 a24
  obtain ⟨m', e, p'⟩ := C (.val (.lst ((addL xs ys).map D.int)))
  refine ⟨m', ?_, p'⟩
  rw [t__law_right_17]
  simp only [ss_cons, ss_nil, s_set, s_seto, s_par, s_unp, s_app, s_setr, s_setrp, s_ext, s_seti, s_drop, s_cond, s_for, s_ret, s_retN, s_frz, thenS_nx, thenS_rt, endF_rt, endF_nx, bind_ok', st_ok', asB_ok, of_some, List.set_cons_succ, List.set_cons_zero, List.getElem?_cons_zero, List.getElem?_cons_succ, List.length_cons, List.length_nil, if_true, setAll, ownAll, List.zip_cons_cons, List.zip_nil_left, List.zip_nil_right, List.foldl_cons, List.foldl_nil, Bool.false_eq_true, if_false, reduceIte, ev_cst, ev_var, ev_tup, ev_lst, ev_op, ev_neg, ev_cmp, ev_cmp2, ev_and, ev_or, ev_not, ev_ite, ev_call, ev_b1, ev_b2, ev_isa, ev_m1, ev_idx, ev_slB, ev_slL, ev_slH, ev_dic0, ev_sp, evs_nil, evs_cons, evAnd_one, evAnd_cons, evOr_one, evOr_cons, vx_view, vx_cst, vx_var, vx_glb, vx_tup, vx_lst, vx_op, vx_neg, vx_not, vx_cmp, vx_and, vx_ite, vx_call, vx_callk, vx_b1, vx_b2, vx_m1, vx_idx, vx_slB, vx_slL, vx_slH, vx_dic0, vx_sp, vx_cmp2, vx_isa, vx_or, cD_int, cD_str, cD_bl, cD_non, le_int, lt_int', gt_int', ge_int', is_non, isnt_non, eq_cmp, ne_cmp, in_cmp, nin_cmp, eqD_int, eqD_str, eqD_bl, add_int, sub_int, len_lst, len_tup, tup_lst, tup_tup, abs_int, int_int, goFor_some, items_seqL, items_seqT, Option.map_some, Bool.not_true, Bool.not_false, decide_true, decide_false, c1]
  rw [t__law_right_18]
  by_cases h9 : v < 10
  · have sp := r_saying_plus (k := k) (by omega) m hx hy hv h9
    obtain ⟨x, hr⟩ := nice_both (n := n) (by omega) al ((add_bd hx.bd hy.bd).mono (by decide))
    have tb : D.tup [.int (n : Int), .lst ((addL xs ys).map D.int)] = tabD n true (addL xs ys) := rfl
    simp only [ss_cons, ss_nil, s_set, s_seto, s_par, s_unp, s_app, s_setr, s_setrp, s_ext, s_seti, s_drop, s_cond, s_for, s_ret, s_retN, s_frz, thenS_nx, thenS_rt, endF_rt, endF_nx, bind_ok', st_ok', asB_ok, of_some, List.set_cons_succ, List.set_cons_zero, List.getElem?_cons_zero, List.getElem?_cons_succ, List.length_cons, List.length_nil, if_true, setAll, ownAll, List.zip_cons_cons, List.zip_nil_left, List.zip_nil_right, List.foldl_cons, List.foldl_nil, Bool.false_eq_true, if_false, reduceIte, ev_cst, ev_var, ev_tup, ev_lst, ev_op, ev_neg, ev_cmp, ev_cmp2, ev_and, ev_or, ev_not, ev_ite, ev_call, ev_b1, ev_b2, ev_isa, ev_m1, ev_idx, ev_slB, ev_slL, ev_slH, ev_dic0, ev_sp, evs_nil, evs_cons, evAnd_one, evAnd_cons, evOr_one, evOr_cons, vx_view, vx_cst, vx_var, vx_glb, vx_tup, vx_lst, vx_op, vx_neg, vx_not, vx_cmp, vx_and, vx_ite, vx_call, vx_callk, vx_b1, vx_b2, vx_m1, vx_idx, vx_slB, vx_slL, vx_slH, vx_dic0, vx_sp, vx_cmp2, vx_isa, vx_or, cD_int, cD_str, cD_bl, cD_non, le_int, lt_int', gt_int', ge_int', is_non, isnt_non, eq_cmp, ne_cmp, in_cmp, nin_cmp, eqD_int, eqD_str, eqD_bl, add_int, sub_int, len_lst, len_tup, tup_lst, tup_tup, abs_int, int_int, goFor_some, items_seqL, items_seqT, Option.map_some, Bool.not_true, Bool.not_false, decide_true, decide_false, v_x__law_right_6, c2, max_ints, hv, h9, ev_callk, permD, List.foldr_cons, List.foldr_nil, List.nil_append, sp, tb, twice, hr]
    exact e
  · simp only [ss_cons, ss_nil, s_set, s_seto, s_par, s_unp, s_app, s_setr, s_setrp, s_ext, s_seti, s_drop, s_cond, s_for, s_ret, s_retN, s_frz, thenS_nx, thenS_rt, endF_rt, endF_nx, bind_ok', st_ok', asB_ok, of_some, List.set_cons_succ, List.set_cons_zero, List.getElem?_cons_zero, List.getElem?_cons_succ, List.length_cons, List.length_nil, if_true, setAll, ownAll, List.zip_cons_cons, List.zip_nil_left, List.zip_nil_right, List.foldl_cons, List.foldl_nil, Bool.false_eq_true, if_false, reduceIte, ev_cst, ev_var, ev_tup, ev_lst, ev_op, ev_neg, ev_cmp, ev_cmp2, ev_and, ev_or, ev_not, ev_ite, ev_call, ev_b1, ev_b2, ev_isa, ev_m1, ev_idx, ev_slB, ev_slL, ev_slH, ev_dic0, ev_sp, evs_nil, evs_cons, evAnd_one, evAnd_cons, evOr_one, evOr_cons, vx_view, vx_cst, vx_var, vx_glb, vx_tup, vx_lst, vx_op, vx_neg, vx_not, vx_cmp, vx_and, vx_ite, vx_call, vx_callk, vx_b1, vx_b2, vx_m1, vx_idx, vx_slB, vx_slL, vx_slH, vx_dic0, vx_sp, vx_cmp2, vx_isa, vx_or, cD_int, cD_str, cD_bl, cD_non, le_int, lt_int', gt_int', ge_int', is_non, isnt_non, eq_cmp, ne_cmp, in_cmp, nin_cmp, eqD_int, eqD_str, eqD_bl, add_int, sub_int, len_lst, len_tup, tup_lst, tup_tup, abs_int, int_int, goFor_some, items_seqL, items_seqT, Option.map_some, Bool.not_true, Bool.not_false, decide_true, decide_false, v_x__law_right_6, c2, max_ints, hv, h9]
    exact e
theorem g_turn {k : Nat} (hk : 8 ≤ k) {m : Mu} {d : D} (h : top2 d = true) (hr : ∃ x, b1op .repr d = some (.str x)) (v0 v1 a2 a3 a4 a5 a6 a7 a8 a9 a10 a11 a12 a13 a14 a15 a16 a17 a18 a19 a20 a21 a22 a23 a24 : Slot) :
    ∃ b4 b22, forB (gg k) 1000 (.nm 8) b__law_right_0 d [v0, v1, a2, a3, a4, a5, a6, a7, a8, a9, a10, a11, a12, a13, a14, a15, a16, a17, a18, a19, a20, a21, a22, a23, a24] m
      = .nx [v0, v1, a2, a3, b4, a5, a6, a7, .val d, a9, a10, a11, a12, a13, a14, a15, a16, a17, a18, a19, a20, a21, b22, a23, a24] m := by
  have e1 := l_is_good (k := k) (by omega) m h
  have e2 : callF txt.fs txt.consts 1000 k i_is_good [d] m = .ok (.bl (goodP d)) m := by
    rw [cl_u (by omega) h_is_good rfl]
    simp [f_is_good, startS, r_is_good_of (k := k - 1) (by omega) m h]
  obtain ⟨x, hx⟩ := rep_bool (goodP d)
  obtain ⟨y, hy⟩ := hr
  refine ⟨.val (.bl (goodP d)), .val (.str y), ?_⟩
  unfold forB b__law_right_0
  simp only [bind_nm]
  simp only [ss_cons, ss_nil, s_set, s_seto, s_par, s_unp, s_app, s_setr, s_setrp, s_ext, s_seti, s_drop, s_cond, s_for, s_ret, s_retN, s_frz, thenS_nx, thenS_rt, endF_rt, endF_nx, bind_ok', st_ok', asB_ok, of_some, List.set_cons_succ, List.set_cons_zero, List.getElem?_cons_zero, List.getElem?_cons_succ, List.length_cons, List.length_nil, if_true, setAll, ownAll, List.zip_cons_cons, List.zip_nil_left, List.zip_nil_right, List.foldl_cons, List.foldl_nil, Bool.false_eq_true, if_false, reduceIte, ev_cst, ev_var, ev_tup, ev_lst, ev_op, ev_neg, ev_cmp, ev_cmp2, ev_and, ev_or, ev_not, ev_ite, ev_call, ev_b1, ev_b2, ev_isa, ev_m1, ev_idx, ev_slB, ev_slL, ev_slH, ev_dic0, ev_sp, evs_nil, evs_cons, evAnd_one, evAnd_cons, evOr_one, evOr_cons, vx_view, vx_cst, vx_var, vx_glb, vx_tup, vx_lst, vx_op, vx_neg, vx_not, vx_cmp, vx_and, vx_ite, vx_call, vx_callk, vx_b1, vx_b2, vx_m1, vx_idx, vx_slB, vx_slL, vx_slH, vx_dic0, vx_sp, vx_cmp2, vx_isa, vx_or, cD_int, cD_str, cD_bl, cD_non, le_int, lt_int', gt_int', ge_int', is_non, isnt_non, eq_cmp, ne_cmp, in_cmp, nin_cmp, eqD_int, eqD_str, eqD_bl, add_int, sub_int, len_lst, len_tup, tup_lst, tup_tup, abs_int, int_int, goFor_some, items_seqL, items_seqT, Option.map_some, Bool.not_true, Bool.not_false, decide_true, decide_false, e1, e2, hy, ev_callk, permD, List.foldr_cons, List.foldr_nil, List.nil_append, hx]
theorem g_loop {k : Nat} (hk : 8 ≤ k) {m : Mu} : ∀ (ds : List D) (v0 v1 a2 a3 a4 a5 a6 a7 a8 a9 a10 a11 a12 a13 a14 a15 a16 a17 a18 a19 a20 a21 a22 a23 a24 : Slot), (∀ d ∈ ds, top2 d = true ∧ ∃ x, b1op .repr d = some (.str x)) →
    ∃ b4 b8 b22, forR (forB (gg k) 1000 (.nm 8) b__law_right_0) ds [v0, v1, a2, a3, a4, a5, a6, a7, a8, a9, a10, a11, a12, a13, a14, a15, a16, a17, a18, a19, a20, a21, a22, a23, a24] m
      = .nx [v0, v1, a2, a3, b4, a5, a6, a7, b8, a9, a10, a11, a12, a13, a14, a15, a16, a17, a18, a19, a20, a21, b22, a23, a24] m
  | [], v0, v1, a2, a3, a4, a5, a6, a7, a8, a9, a10, a11, a12, a13, a14, a15, a16, a17, a18, a19, a20, a21, a22, a23, a24, _ => ⟨a4, a8, a22, rfl⟩
  | d :: ds, v0, v1, a2, a3, a4, a5, a6, a7, a8, a9, a10, a11, a12, a13, a14, a15, a16, a17, a18, a19, a20, a21, a22, a23, a24, h => by
    obtain ⟨b4, b22, e⟩ := g_turn hk (m := m) (h d List.mem_cons_self).1 (h d List.mem_cons_self).2 v0 v1 a2 a3 a4 a5 a6 a7 a8 a9 a10 a11 a12 a13 a14 a15 a16 a17 a18 a19 a20 a21 a22 a23 a24
    obtain ⟨c4, c8, c22, e2⟩ := g_loop hk (m := m) ds v0 v1 a2 a3 b4 a5 a6 a7 (.val d) a9 a10 a11 a12 a13 a14 a15 a16 a17 a18 a19 a20 a21 b22 a23 a24 fun d hd => h d (List.mem_cons_of_mem _ hd)
    refine ⟨c4, c8, c22, ?_⟩
    rw [forR, e]
    exact e2
theorem nice_list (l : List D) (h : ∀ d ∈ l, Nice 1 136 d) (hl : l.length ≤ 64) : Nice 2 8800 (.lst l) := (nice_lst h).mono (by decide) (by omega)
theorem nice_tupl (l : List D) (h : ∀ d ∈ l, Nice 1 136 d) (hl : l.length ≤ 64) : Nice 2 8800 (.tup l) := (nice_tup h).mono (by decide) (by omega)
theorem nice_p {a b : D} (ha : Nice 1 136 a) (hb : Nice 2 8800 b) : Nice 3 18000 (.tup [a, b]) := (nice_tup (dp := 2) (W := 8800) (ds := [a, b]) (by
  intro d hd
  rcases List.mem_cons.mp hd with rfl | hd
  · exact ha.mono (by decide) (by decide)
  · rw [List.mem_singleton.mp hd]
    exact hb)).mono (by decide) (by simp)
theorem nice_q {a b : D} (ha : Nice 1 136 a) (hb : Nice 2 8800 b) : Nice 3 18000 (.lst [a, b]) := (nice_lst (dp := 2) (W := 8800) (ds := [a, b]) (by
  intro d hd
  rcases List.mem_cons.mp hd with rfl | hd
  · exact ha.mono (by decide) (by decide)
  · rw [List.mem_singleton.mp hd]
    exact hb)).mono (by decide) (by simp)
theorem int1 {i : Int} (h : i.natAbs < 10 ^ 40) : Nice 1 136 (.int i) := nice_big h
theorem ints1 {l : List Int} (h : Bd 10000000000000000000000000000000000 l) : ∀ d ∈ l.map D.int, Nice 1 136 d := fun d hd => by
  obtain ⟨x, hx, rfl⟩ := List.mem_map.mp hd
  have := h x hx
  exact nice_big (by omega)
theorem bd2 {a b : Int} (h : a.natAbs ≤ 100 ∧ b.natAbs ≤ 100) : Bd 10000000000000000000000000000000000 [a, b] := fun x hx => by
  rcases List.mem_cons.mp hx with rfl | hx
  · omega
  · rw [List.mem_singleton.mp hx]
    omega
theorem top2_tints (n : Int) (l : List Int) : top2 (.tup [.int n, .tup (l.map D.int)]) = true := by simp [top2, top, kids]
theorem top2_cons {n : Int} {l : List D} (h : ∀ d ∈ l, top d = true) : top2 (.tup [.int n, .lst l]) = true := by
  have t3 : l.all top = true := List.all_eq_true.mpr h
  show ((true && true) && ((true && l.all top) && true)) = true
  rw [t3]
  rfl
def cvI (n : Nat) : List Int := (lotsI n).map fun ls => if 5 < 2 * (ls.length : Int) then 5 else 2 * (ls.length : Int)
theorem cv_bd (n : Nat) : Bd 5 (cvI n) := fun x hx => by
  obtain ⟨ls, _, rfl⟩ := List.mem_map.mp hx
  split <;> omega
theorem cv_len (n : Nat) : (cvI n).length = 2 ^ n := by rw [cvI, List.length_map, lots_len]
theorem rep0 (j : Nat) : Bd 10000000000000000000000000000000000 (List.replicate j 0) := Bd0 (by decide) j
theorem part_A2 {k : Nat} (hk : 8 ≤ k) {L p n : Nat} {m : Mu} (h : Pots PB L m) (hp : p < L) (h2 : 2 ≤ n) (h4 : n ≤ 4) {xs ws ys : List Int} (hx : Say n xs) (hy : Say n ys) (hw : Tab n ws) (a4 a5 a6 a7 a8 a9 a10 a11 a12 a13 a14 a15 a20 a21 a22 a23 a24 : Slot) :
    ∃ m', evSs (gg k) 1000 t__law_right_11 [.val (.ref p), .val (.int n), .val (tabD n true ws), .val (.int (dot xs ws)), a4, a5, a6, a7, a8, a9, a10, a11, a12, a13, a14, a15, .val (PL n), .val (LL n), .val (tabD n true xs), .val (tabD n true ys), a20, a21, a22, a23, a24] m = .rt (.bl true) m' ∧ Pots PB L m' := by
  have l32 := len32 (n := n) (by omega)
  have hwl := hw.len
  have c3 : ev (gg k) x__law_right_3 [.val (.ref p), .val (.int n), .val (tabD n true ws), .val (.int (dot xs ws)), a4, a5, a6, a7, a8, a9, a10, a11, a12, a13, a14, a15, .val (PL n), .val (LL n), .val (tabD n true xs), .val (tabD n true ys), a20, a21, a22, a23, a24] m = .ok (.lst ((cvI n).map D.int)) m := by
    rw [x__law_right_3, comp_map (lotsI n) lotD (fun ls => .int (if 5 < 2 * (ls.length : Int) then 5 else 2 * (ls.length : Int))) (ds := [LL n]) (by
      simp only [evx_cons, evx_nil]
      simp only [ss_cons, ss_nil, s_set, s_seto, s_par, s_unp, s_app, s_setr, s_setrp, s_ext, s_seti, s_drop, s_cond, s_for, s_ret, s_retN, s_frz, thenS_nx, thenS_rt, endF_rt, endF_nx, bind_ok', st_ok', asB_ok, of_some, List.set_cons_succ, List.set_cons_zero, List.getElem?_cons_zero, List.getElem?_cons_succ, List.length_cons, List.length_nil, if_true, setAll, ownAll, List.zip_cons_cons, List.zip_nil_left, List.zip_nil_right, List.foldl_cons, List.foldl_nil, Bool.false_eq_true, if_false, reduceIte, ev_cst, ev_var, ev_tup, ev_lst, ev_op, ev_neg, ev_cmp, ev_cmp2, ev_and, ev_or, ev_not, ev_ite, ev_call, ev_b1, ev_b2, ev_isa, ev_m1, ev_idx, ev_slB, ev_slL, ev_slH, ev_dic0, ev_sp, evs_nil, evs_cons, evAnd_one, evAnd_cons, evOr_one, evOr_cons, vx_view, vx_cst, vx_var, vx_glb, vx_tup, vx_lst, vx_op, vx_neg, vx_not, vx_cmp, vx_and, vx_ite, vx_call, vx_callk, vx_b1, vx_b2, vx_m1, vx_idx, vx_slB, vx_slL, vx_slH, vx_dic0, vx_sp, vx_cmp2, vx_isa, vx_or, cD_int, cD_str, cD_bl, cD_non, le_int, lt_int', gt_int', ge_int', is_non, isnt_non, eq_cmp, ne_cmp, in_cmp, nin_cmp, eqD_int, eqD_str, eqD_bl, add_int, sub_int, len_lst, len_tup, tup_lst, tup_tup, abs_int, int_int, goFor_some, items_seqL, items_seqT, Option.map_some, Bool.not_true, Bool.not_false, decide_true, decide_false]) rfl (fun ls hls => ⟨_, rfl, by
        have := (lot_lt (n := n) (by omega) ls hls).1
        have mm := mul_small (a := 2) (b := ls.length) (by omega) (by omega) (by omega) (by omega)
        simp only [List.map_cons, List.map_nil, wipe_cons, wipe_nil]
        simp only [ss_cons, ss_nil, s_set, s_seto, s_par, s_unp, s_app, s_setr, s_setrp, s_ext, s_seti, s_drop, s_cond, s_for, s_ret, s_retN, s_frz, thenS_nx, thenS_rt, endF_rt, endF_nx, bind_ok', st_ok', asB_ok, of_some, List.set_cons_succ, List.set_cons_zero, List.getElem?_cons_zero, List.getElem?_cons_succ, List.length_cons, List.length_nil, if_true, setAll, ownAll, List.zip_cons_cons, List.zip_nil_left, List.zip_nil_right, List.foldl_cons, List.foldl_nil, Bool.false_eq_true, if_false, reduceIte, ev_cst, ev_var, ev_tup, ev_lst, ev_op, ev_neg, ev_cmp, ev_cmp2, ev_and, ev_or, ev_not, ev_ite, ev_call, ev_b1, ev_b2, ev_isa, ev_m1, ev_idx, ev_slB, ev_slL, ev_slH, ev_dic0, ev_sp, evs_nil, evs_cons, evAnd_one, evAnd_cons, evOr_one, evOr_cons, vx_view, vx_cst, vx_var, vx_glb, vx_tup, vx_lst, vx_op, vx_neg, vx_not, vx_cmp, vx_and, vx_ite, vx_call, vx_callk, vx_b1, vx_b2, vx_m1, vx_idx, vx_slB, vx_slL, vx_slH, vx_dic0, vx_sp, vx_cmp2, vx_isa, vx_or, cD_int, cD_str, cD_bl, cD_non, le_int, lt_int', gt_int', ge_int', is_non, isnt_non, eq_cmp, ne_cmp, in_cmp, nin_cmp, eqD_int, eqD_str, eqD_bl, add_int, sub_int, len_lst, len_tup, tup_lst, tup_tup, abs_int, int_int, goFor_some, items_seqL, items_seqT, Option.map_some, Bool.not_true, Bool.not_false, decide_true, decide_false, len_lot, mm]
        rfl⟩) (by rw [lots_len]; omega), cvI, List.map_map]
    rfl
  have p30 : binop .Pow (.int 10) (.int 30) = some (.int 1000000000000000000000000000000) := pow_int (by decide)
  have c4 : ∀ a6 : Slot, ev (gg k) x__law_right_4 [.val (.ref p), .val (.int n), .val (tabD n true ws), .val (.int (dot xs ws)), a4, .val (tabD n true (cvI n)), a6, a7, a8, a9, a10, a11, a12, a13, a14, a15, .val (PL n), .val (LL n), .val (tabD n true xs), .val (tabD n true ys), a20, a21, a22, a23, a24] m = .ok (.lst (((cvI n).map fun c => 1000000000000000000000000000000 * c).map D.int)) m := fun a6 => by
    rw [x__law_right_4, comp_map (cvI n) D.int (fun c => .int (1000000000000000000000000000000 * c)) (ds := [.lst ((cvI n).map D.int)]) (by
      simp only [evx_cons, evx_nil]
      simp only [ss_cons, ss_nil, s_set, s_seto, s_par, s_unp, s_app, s_setr, s_setrp, s_ext, s_seti, s_drop, s_cond, s_for, s_ret, s_retN, s_frz, thenS_nx, thenS_rt, endF_rt, endF_nx, bind_ok', st_ok', asB_ok, of_some, List.set_cons_succ, List.set_cons_zero, List.getElem?_cons_zero, List.getElem?_cons_succ, List.length_cons, List.length_nil, if_true, setAll, ownAll, List.zip_cons_cons, List.zip_nil_left, List.zip_nil_right, List.foldl_cons, List.foldl_nil, Bool.false_eq_true, if_false, reduceIte, ev_cst, ev_var, ev_tup, ev_lst, ev_op, ev_neg, ev_cmp, ev_cmp2, ev_and, ev_or, ev_not, ev_ite, ev_call, ev_b1, ev_b2, ev_isa, ev_m1, ev_idx, ev_slB, ev_slL, ev_slH, ev_dic0, ev_sp, evs_nil, evs_cons, evAnd_one, evAnd_cons, evOr_one, evOr_cons, vx_view, vx_cst, vx_var, vx_glb, vx_tup, vx_lst, vx_op, vx_neg, vx_not, vx_cmp, vx_and, vx_ite, vx_call, vx_callk, vx_b1, vx_b2, vx_m1, vx_idx, vx_slB, vx_slL, vx_slH, vx_dic0, vx_sp, vx_cmp2, vx_isa, vx_or, cD_int, cD_str, cD_bl, cD_non, le_int, lt_int', gt_int', ge_int', is_non, isnt_non, eq_cmp, ne_cmp, in_cmp, nin_cmp, eqD_int, eqD_str, eqD_bl, add_int, sub_int, len_lst, len_tup, tup_lst, tup_tup, abs_int, int_int, goFor_some, items_seqL, items_seqT, Option.map_some, Bool.not_true, Bool.not_false, decide_true, decide_false, idx1_tab, seqD]) rfl (fun c hc => ⟨_, rfl, by
        have := cv_bd n c hc
        have mm := mul_s (i := 1000000000000000000000000000000) (j := c) (by omega) (by omega) (by omega) (by omega)
        simp only [List.map_cons, List.map_nil, wipe_cons, wipe_nil]
        simp only [ss_cons, ss_nil, s_set, s_seto, s_par, s_unp, s_app, s_setr, s_setrp, s_ext, s_seti, s_drop, s_cond, s_for, s_ret, s_retN, s_frz, thenS_nx, thenS_rt, endF_rt, endF_nx, bind_ok', st_ok', asB_ok, of_some, List.set_cons_succ, List.set_cons_zero, List.getElem?_cons_zero, List.getElem?_cons_succ, List.length_cons, List.length_nil, if_true, setAll, ownAll, List.zip_cons_cons, List.zip_nil_left, List.zip_nil_right, List.foldl_cons, List.foldl_nil, Bool.false_eq_true, if_false, reduceIte, ev_cst, ev_var, ev_tup, ev_lst, ev_op, ev_neg, ev_cmp, ev_cmp2, ev_and, ev_or, ev_not, ev_ite, ev_call, ev_b1, ev_b2, ev_isa, ev_m1, ev_idx, ev_slB, ev_slL, ev_slH, ev_dic0, ev_sp, evs_nil, evs_cons, evAnd_one, evAnd_cons, evOr_one, evOr_cons, vx_view, vx_cst, vx_var, vx_glb, vx_tup, vx_lst, vx_op, vx_neg, vx_not, vx_cmp, vx_and, vx_ite, vx_call, vx_callk, vx_b1, vx_b2, vx_m1, vx_idx, vx_slB, vx_slL, vx_slH, vx_dic0, vx_sp, vx_cmp2, vx_isa, vx_or, cD_int, cD_str, cD_bl, cD_non, le_int, lt_int', gt_int', ge_int', is_non, isnt_non, eq_cmp, ne_cmp, in_cmp, nin_cmp, eqD_int, eqD_str, eqD_bl, add_int, sub_int, len_lst, len_tup, tup_lst, tup_tup, abs_int, int_int, goFor_some, items_seqL, items_seqT, Option.map_some, Bool.not_true, Bool.not_false, decide_true, decide_false, p30, mm]⟩) (by rw [cv_len]; omega), List.map_map]
    rfl
  have m32 : binop .Mult (.lst [.int 0]) (.int 32) = some (.lst ((List.replicate 32 (0 : Int)).map D.int)) := mul_rep 32 (by decide)
  have m64 : binop .Mult (.lst [.int 0]) (.int 64) = some (.lst ((List.replicate 64 (0 : Int)).map D.int)) := mul_rep 64 (by decide)
  have A1 : binop .Add (.lst [.int 1]) (.lst ((ws.map D.int).drop 1)) = some (.lst (.int 1 :: (ws.drop 1).map D.int)) := (add_l (by simp; omega)).trans (by simp [List.map_drop])
  have A2 : binop .Add (.lst [.int 0, .bl true]) (.lst ((ws.map D.int).drop 2)) = some (.lst (.int 0 :: .bl true :: (ws.drop 2).map D.int)) := (add_l (by simp; omega)).trans (by simp [List.map_drop])
  have ng : negop (.int 3) = some (.int (-3)) := rfl
  obtain ⟨b4, b8, b22, e⟩ := g_loop (k := k) hk (m := m) [tabD n true ws, tabD n true (cvI n), D.tup [D.int n, D.tup ((cvI n).map D.int)], D.tup [D.int n, D.lst (((cvI n).map fun c => 1000000000000000000000000000000 * c).map D.int)],
    D.tup [D.int n, D.lst (.int 1 :: (ws.drop 1).map D.int)], D.lst [D.int n, D.lst (ws.map D.int)], D.tup [D.int n, D.lst ((ws.map D.int).drop 1)], D.tup [D.int 1, D.lst [D.int 0, D.int 3]], D.tup [D.int 1, D.lst [D.int 0, D.int (-3)]],
    D.tup [D.int 5, D.lst ((List.replicate 32 (0 : Int)).map D.int)], D.tup [D.int 6, D.lst ((List.replicate 64 (0 : Int)).map D.int)], D.non, D.dic [] [],
    D.tup [D.bl true, D.lst [D.int 0, D.int 1]], D.tup [D.int n, D.lst (.int 0 :: .bl true :: (ws.drop 2).map D.int)], D.tup [D.int n, D.non]]
    (.val (.ref p)) (.val (.int n)) (.val (tabD n true ws)) (.val (.int (dot xs ws))) a4 (.val (tabD n true (cvI n))) (.val (.lst (ws.map D.int))) _ a8 a9 a10 a11 a12 a13 a14 a15 (.val (PL n)) (.val (LL n)) (.val (tabD n true xs)) (.val (tabD n true ys)) a20 a21 a22 a23 a24 (by
      have nn : Nice 1 136 (.int (n : Int)) := int1 (by omega)
      have b1 := hw.bd.mono (b := 10000000000000000000000000000000000) (by decide)
      have bc := (cv_bd n).mono (b := 10000000000000000000000000000000000) (by decide)
      have d1 : Bd 10000000000000000000000000000000000 (ws.drop 1) := fun x hx => b1 x (List.mem_of_mem_drop hx)
      have d2 : Bd 10000000000000000000000000000000000 (ws.drop 2) := fun x hx => b1 x (List.mem_of_mem_drop hx)
      have bC : Bd 10000000000000000000000000000000000 ((cvI n).map fun c => 1000000000000000000000000000000 * c) := fun x hx => by
        obtain ⟨c, hc, rfl⟩ := List.mem_map.mp hx
        have := cv_bd n c hc
        show _ ≤ 1000000000000000000000000000000 * c ∧ 1000000000000000000000000000000 * c ≤ _
        omega
      have topi : ∀ l : List Int, ∀ d ∈ l.map D.int, top d = true := fun l d hd => by
        obtain ⟨x, _, rfl⟩ := List.mem_map.mp hd
        rfl
      have cvl := cv_len n
      intro d hd
      simp only [List.mem_cons, List.not_mem_nil, or_false] at hd
      rcases hd with rfl | rfl | rfl | rfl | rfl | rfl | rfl | rfl | rfl | rfl | rfl | rfl | rfl | rfl | rfl | rfl
      · exact ⟨top2_tab _ _ _, (nice_tab (by omega) hw.len (hw.bd.mono (by decide))).repr (by decide) (by decide)⟩
      · exact ⟨top2_tab _ _ _, (nice_tab (by omega) (cv_len n) ((cv_bd n).mono (by decide))).repr (by decide) (by decide)⟩
      · exact ⟨top2_tints _ _, (nice_p nn (nice_tupl _ (ints1 bc) (by rw [List.length_map]; omega))).repr (by decide) (by decide)⟩
      · exact ⟨top2_ints _ _, (nice_p nn (nice_list _ (ints1 bC) (by rw [List.length_map, List.length_map]; omega))).repr (by decide) (by decide)⟩
      · exact ⟨top2_ints _ (1 :: ws.drop 1), (nice_p nn (nice_list _ (ints1 (l := 1 :: ws.drop 1) (fun x hx => by
          rcases List.mem_cons.mp hx with rfl | hx
          · decide
          · exact d1 x hx)) (by simp; omega))).repr (by decide) (by decide)⟩
      · exact ⟨rfl, (nice_q nn (nice_list _ (ints1 b1) (by rw [List.length_map]; omega))).repr (by decide) (by decide)⟩
      · rw [drop_map]
        exact ⟨top2_ints _ _, (nice_p nn (nice_list _ (ints1 d1) (by simp; omega))).repr (by decide) (by decide)⟩
      · exact ⟨rfl, (nice_p (int1 (i := 1) (by decide)) (nice_list _ (ints1 (l := [0, 3]) (bd2 (by decide))) (by decide))).repr (by decide) (by decide)⟩
      · exact ⟨rfl, (nice_p (int1 (i := 1) (by decide)) (nice_list _ (ints1 (l := [0, -3]) (bd2 (by decide))) (by decide))).repr (by decide) (by decide)⟩
      · exact ⟨top2_ints _ _, (nice_p (int1 (i := 5) (by decide)) (nice_list _ (ints1 (rep0 32)) (by simp))).repr (by decide) (by decide)⟩
      · exact ⟨top2_ints _ _, (nice_p (int1 (i := 6) (by decide)) (nice_list _ (ints1 (rep0 64)) (by simp))).repr (by decide) (by decide)⟩
      · exact ⟨rfl, nice_non.repr (by decide) (by decide)⟩
      · exact ⟨rfl, nice_dic0.repr (by decide) (by decide)⟩
      · exact ⟨rfl, (nice_p ((nice_bl true).mono (by decide) (by decide)) (nice_list _ (ints1 (l := [0, 1]) (bd2 (by decide))) (by decide))).repr (by decide) (by decide)⟩
      · refine ⟨top2_cons fun d hd => ?_, (nice_p nn (nice_list (.int 0 :: .bl true :: (ws.drop 2).map D.int) (fun d hd => ?_) (by simp; omega))).repr (by decide) (by decide)⟩
        · rcases List.mem_cons.mp hd with rfl | hd
          · rfl
          rcases List.mem_cons.mp hd with rfl | hd
          · rfl
          exact topi _ d hd
        · rcases List.mem_cons.mp hd with rfl | hd
          · exact int1 (by decide)
          rcases List.mem_cons.mp hd with rfl | hd
          · exact (nice_bl true).mono (by decide) (by decide)
          exact ints1 d2 d hd
      · exact ⟨rfl, (nice_p nn (nice_non.mono (by decide) (by decide))).repr (by decide) (by decide)⟩)
  obtain ⟨m', eB, pB⟩ := part_B hk h hp h2 h4 hx hy hw b4 (.val (tabD n true (cvI n))) (.val (.lst (ws.map D.int))) (.val (.lst [tabD n true ws, tabD n true (cvI n), D.tup [D.int n, D.tup ((cvI n).map D.int)], D.tup [D.int n, D.lst (((cvI n).map fun c => 1000000000000000000000000000000 * c).map D.int)],
    D.tup [D.int n, D.lst (.int 1 :: (ws.drop 1).map D.int)], D.lst [D.int n, D.lst (ws.map D.int)], D.tup [D.int n, D.lst ((ws.map D.int).drop 1)], D.tup [D.int 1, D.lst [D.int 0, D.int 3]], D.tup [D.int 1, D.lst [D.int 0, D.int (-3)]],
    D.tup [D.int 5, D.lst ((List.replicate 32 (0 : Int)).map D.int)], D.tup [D.int 6, D.lst ((List.replicate 64 (0 : Int)).map D.int)], D.non, D.dic [] []])) b8 a9 a10 a11 a12 a13 a14 a15 a20 a21 b22 a23 a24
  refine ⟨m', ?_, pB⟩
  rw [t__law_right_11]
  simp only [ss_cons, ss_nil, s_set, s_seto, s_par, s_unp, s_app, s_setr, s_setrp, s_ext, s_seti, s_drop, s_cond, s_for, s_ret, s_retN, s_frz, thenS_nx, thenS_rt, endF_rt, endF_nx, bind_ok', st_ok', asB_ok, of_some, List.set_cons_succ, List.set_cons_zero, List.getElem?_cons_zero, List.getElem?_cons_succ, List.length_cons, List.length_nil, if_true, setAll, ownAll, List.zip_cons_cons, List.zip_nil_left, List.zip_nil_right, List.foldl_cons, List.foldl_nil, Bool.false_eq_true, if_false, reduceIte, ev_cst, ev_var, ev_tup, ev_lst, ev_op, ev_neg, ev_cmp, ev_cmp2, ev_and, ev_or, ev_not, ev_ite, ev_call, ev_b1, ev_b2, ev_isa, ev_m1, ev_idx, ev_slB, ev_slL, ev_slH, ev_dic0, ev_sp, evs_nil, evs_cons, evAnd_one, evAnd_cons, evOr_one, evOr_cons, vx_view, vx_cst, vx_var, vx_glb, vx_tup, vx_lst, vx_op, vx_neg, vx_not, vx_cmp, vx_and, vx_ite, vx_call, vx_callk, vx_b1, vx_b2, vx_m1, vx_idx, vx_slB, vx_slL, vx_slH, vx_dic0, vx_sp, vx_cmp2, vx_isa, vx_or, cD_int, cD_str, cD_bl, cD_non, le_int, lt_int', gt_int', ge_int', is_non, isnt_non, eq_cmp, ne_cmp, in_cmp, nin_cmp, eqD_int, eqD_str, eqD_bl, add_int, sub_int, len_lst, len_tup, tup_lst, tup_tup, abs_int, int_int, goFor_some, items_seqL, items_seqT, Option.map_some, Bool.not_true, Bool.not_false, decide_true, decide_false, v_x__law_right_3, c3]
  rw [t__law_right_12]
  simp only [ss_cons, ss_nil, s_set, s_seto, s_par, s_unp, s_app, s_setr, s_setrp, s_ext, s_seti, s_drop, s_cond, s_for, s_ret, s_retN, s_frz, thenS_nx, thenS_rt, endF_rt, endF_nx, bind_ok', st_ok', asB_ok, of_some, List.set_cons_succ, List.set_cons_zero, List.getElem?_cons_zero, List.getElem?_cons_succ, List.length_cons, List.length_nil, if_true, setAll, ownAll, List.zip_cons_cons, List.zip_nil_left, List.zip_nil_right, List.foldl_cons, List.foldl_nil, Bool.false_eq_true, if_false, reduceIte, ev_cst, ev_var, ev_tup, ev_lst, ev_op, ev_neg, ev_cmp, ev_cmp2, ev_and, ev_or, ev_not, ev_ite, ev_call, ev_b1, ev_b2, ev_isa, ev_m1, ev_idx, ev_slB, ev_slL, ev_slH, ev_dic0, ev_sp, evs_nil, evs_cons, evAnd_one, evAnd_cons, evOr_one, evOr_cons, vx_view, vx_cst, vx_var, vx_glb, vx_tup, vx_lst, vx_op, vx_neg, vx_not, vx_cmp, vx_and, vx_ite, vx_call, vx_callk, vx_b1, vx_b2, vx_m1, vx_idx, vx_slB, vx_slL, vx_slH, vx_dic0, vx_sp, vx_cmp2, vx_isa, vx_or, cD_int, cD_str, cD_bl, cD_non, le_int, lt_int', gt_int', ge_int', is_non, isnt_non, eq_cmp, ne_cmp, in_cmp, nin_cmp, eqD_int, eqD_str, eqD_bl, add_int, sub_int, len_lst, len_tup, tup_lst, tup_tup, abs_int, int_int, goFor_some, items_seqL, items_seqT, Option.map_some, Bool.not_true, Bool.not_false, decide_true, decide_false, idx1_tab, seqD]
  have tb : D.tup [.int (n : Int), .lst ((cvI n).map D.int)] = tabD n true (cvI n) := rfl
  have lt : ∀ l : List D, b1op .tuple (.lst l) = some (.tup l) := fun _ => rfl
  rw [t__law_right_13]
  simp only [ss_cons, ss_nil, s_set, s_seto, s_par, s_unp, s_app, s_setr, s_setrp, s_ext, s_seti, s_drop, s_cond, s_for, s_ret, s_retN, s_frz, thenS_nx, thenS_rt, endF_rt, endF_nx, bind_ok', st_ok', asB_ok, of_some, List.set_cons_succ, List.set_cons_zero, List.getElem?_cons_zero, List.getElem?_cons_succ, List.length_cons, List.length_nil, if_true, setAll, ownAll, List.zip_cons_cons, List.zip_nil_left, List.zip_nil_right, List.foldl_cons, List.foldl_nil, Bool.false_eq_true, if_false, reduceIte, ev_cst, ev_var, ev_tup, ev_lst, ev_op, ev_neg, ev_cmp, ev_cmp2, ev_and, ev_or, ev_not, ev_ite, ev_call, ev_b1, ev_b2, ev_isa, ev_m1, ev_idx, ev_slB, ev_slL, ev_slH, ev_dic0, ev_sp, evs_nil, evs_cons, evAnd_one, evAnd_cons, evOr_one, evOr_cons, vx_view, vx_cst, vx_var, vx_glb, vx_tup, vx_lst, vx_op, vx_neg, vx_not, vx_cmp, vx_and, vx_ite, vx_call, vx_callk, vx_b1, vx_b2, vx_m1, vx_idx, vx_slB, vx_slL, vx_slH, vx_dic0, vx_sp, vx_cmp2, vx_isa, vx_or, cD_int, cD_str, cD_bl, cD_non, le_int, lt_int', gt_int', ge_int', is_non, isnt_non, eq_cmp, ne_cmp, in_cmp, nin_cmp, eqD_int, eqD_str, eqD_bl, add_int, sub_int, len_lst, len_tup, tup_lst, tup_tup, abs_int, int_int, goFor_some, items_seqL, items_seqT, Option.map_some, Bool.not_true, Bool.not_false, decide_true, decide_false, tb, idx1_tab, seqD, lt, c4]
  rw [t__law_right_14]
  simp only [ss_cons, ss_nil, s_set, s_seto, s_par, s_unp, s_app, s_setr, s_setrp, s_ext, s_seti, s_drop, s_cond, s_for, s_ret, s_retN, s_frz, thenS_nx, thenS_rt, endF_rt, endF_nx, bind_ok', st_ok', asB_ok, of_some, List.set_cons_succ, List.set_cons_zero, List.getElem?_cons_zero, List.getElem?_cons_succ, List.length_cons, List.length_nil, if_true, setAll, ownAll, List.zip_cons_cons, List.zip_nil_left, List.zip_nil_right, List.foldl_cons, List.foldl_nil, Bool.false_eq_true, if_false, reduceIte, ev_cst, ev_var, ev_tup, ev_lst, ev_op, ev_neg, ev_cmp, ev_cmp2, ev_and, ev_or, ev_not, ev_ite, ev_call, ev_b1, ev_b2, ev_isa, ev_m1, ev_idx, ev_slB, ev_slL, ev_slH, ev_dic0, ev_sp, evs_nil, evs_cons, evAnd_one, evAnd_cons, evOr_one, evOr_cons, vx_view, vx_cst, vx_var, vx_glb, vx_tup, vx_lst, vx_op, vx_neg, vx_not, vx_cmp, vx_and, vx_ite, vx_call, vx_callk, vx_b1, vx_b2, vx_m1, vx_idx, vx_slB, vx_slL, vx_slH, vx_dic0, vx_sp, vx_cmp2, vx_isa, vx_or, cD_int, cD_str, cD_bl, cD_non, le_int, lt_int', gt_int', ge_int', is_non, isnt_non, eq_cmp, ne_cmp, in_cmp, nin_cmp, eqD_int, eqD_str, eqD_bl, add_int, sub_int, len_lst, len_tup, tup_lst, tup_tup, abs_int, int_int, goFor_some, items_seqL, items_seqT, Option.map_some, Bool.not_true, Bool.not_false, decide_true, decide_false, slL_1, A1, ng]
  rw [add_l (by simp)]
  simp only [ss_cons, ss_nil, s_set, s_seto, s_par, s_unp, s_app, s_setr, s_setrp, s_ext, s_seti, s_drop, s_cond, s_for, s_ret, s_retN, s_frz, thenS_nx, thenS_rt, endF_rt, endF_nx, bind_ok', st_ok', asB_ok, of_some, List.set_cons_succ, List.set_cons_zero, List.getElem?_cons_zero, List.getElem?_cons_succ, List.length_cons, List.length_nil, if_true, setAll, ownAll, List.zip_cons_cons, List.zip_nil_left, List.zip_nil_right, List.foldl_cons, List.foldl_nil, Bool.false_eq_true, if_false, reduceIte, ev_cst, ev_var, ev_tup, ev_lst, ev_op, ev_neg, ev_cmp, ev_cmp2, ev_and, ev_or, ev_not, ev_ite, ev_call, ev_b1, ev_b2, ev_isa, ev_m1, ev_idx, ev_slB, ev_slL, ev_slH, ev_dic0, ev_sp, evs_nil, evs_cons, evAnd_one, evAnd_cons, evOr_one, evOr_cons, vx_view, vx_cst, vx_var, vx_glb, vx_tup, vx_lst, vx_op, vx_neg, vx_not, vx_cmp, vx_and, vx_ite, vx_call, vx_callk, vx_b1, vx_b2, vx_m1, vx_idx, vx_slB, vx_slL, vx_slH, vx_dic0, vx_sp, vx_cmp2, vx_isa, vx_or, cD_int, cD_str, cD_bl, cD_non, le_int, lt_int', gt_int', ge_int', is_non, isnt_non, eq_cmp, ne_cmp, in_cmp, nin_cmp, eqD_int, eqD_str, eqD_bl, add_int, sub_int, len_lst, len_tup, tup_lst, tup_tup, abs_int, int_int, goFor_some, items_seqL, items_seqT, Option.map_some, Bool.not_true, Bool.not_false, decide_true, decide_false, List.cons_append, List.nil_append]
  rw [t__law_right_15]
  simp only [ss_cons, ss_nil, s_set, s_seto, s_par, s_unp, s_app, s_setr, s_setrp, s_ext, s_seti, s_drop, s_cond, s_for, s_ret, s_retN, s_frz, thenS_nx, thenS_rt, endF_rt, endF_nx, bind_ok', st_ok', asB_ok, of_some, List.set_cons_succ, List.set_cons_zero, List.getElem?_cons_zero, List.getElem?_cons_succ, List.length_cons, List.length_nil, if_true, setAll, ownAll, List.zip_cons_cons, List.zip_nil_left, List.zip_nil_right, List.foldl_cons, List.foldl_nil, Bool.false_eq_true, if_false, reduceIte, ev_cst, ev_var, ev_tup, ev_lst, ev_op, ev_neg, ev_cmp, ev_cmp2, ev_and, ev_or, ev_not, ev_ite, ev_call, ev_b1, ev_b2, ev_isa, ev_m1, ev_idx, ev_slB, ev_slL, ev_slH, ev_dic0, ev_sp, evs_nil, evs_cons, evAnd_one, evAnd_cons, evOr_one, evOr_cons, vx_view, vx_cst, vx_var, vx_glb, vx_tup, vx_lst, vx_op, vx_neg, vx_not, vx_cmp, vx_and, vx_ite, vx_call, vx_callk, vx_b1, vx_b2, vx_m1, vx_idx, vx_slB, vx_slL, vx_slH, vx_dic0, vx_sp, vx_cmp2, vx_isa, vx_or, cD_int, cD_str, cD_bl, cD_non, le_int, lt_int', gt_int', ge_int', is_non, isnt_non, eq_cmp, ne_cmp, in_cmp, nin_cmp, eqD_int, eqD_str, eqD_bl, add_int, sub_int, len_lst, len_tup, tup_lst, tup_tup, abs_int, int_int, goFor_some, items_seqL, items_seqT, Option.map_some, Bool.not_true, Bool.not_false, decide_true, decide_false, m32, m64]
  rw [add_l (by simp)]
  simp only [ss_cons, ss_nil, s_set, s_seto, s_par, s_unp, s_app, s_setr, s_setrp, s_ext, s_seti, s_drop, s_cond, s_for, s_ret, s_retN, s_frz, thenS_nx, thenS_rt, endF_rt, endF_nx, bind_ok', st_ok', asB_ok, of_some, List.set_cons_succ, List.set_cons_zero, List.getElem?_cons_zero, List.getElem?_cons_succ, List.length_cons, List.length_nil, if_true, setAll, ownAll, List.zip_cons_cons, List.zip_nil_left, List.zip_nil_right, List.foldl_cons, List.foldl_nil, Bool.false_eq_true, if_false, reduceIte, ev_cst, ev_var, ev_tup, ev_lst, ev_op, ev_neg, ev_cmp, ev_cmp2, ev_and, ev_or, ev_not, ev_ite, ev_call, ev_b1, ev_b2, ev_isa, ev_m1, ev_idx, ev_slB, ev_slL, ev_slH, ev_dic0, ev_sp, evs_nil, evs_cons, evAnd_one, evAnd_cons, evOr_one, evOr_cons, vx_view, vx_cst, vx_var, vx_glb, vx_tup, vx_lst, vx_op, vx_neg, vx_not, vx_cmp, vx_and, vx_ite, vx_call, vx_callk, vx_b1, vx_b2, vx_m1, vx_idx, vx_slB, vx_slL, vx_slH, vx_dic0, vx_sp, vx_cmp2, vx_isa, vx_or, cD_int, cD_str, cD_bl, cD_non, le_int, lt_int', gt_int', ge_int', is_non, isnt_non, eq_cmp, ne_cmp, in_cmp, nin_cmp, eqD_int, eqD_str, eqD_bl, add_int, sub_int, len_lst, len_tup, tup_lst, tup_tup, abs_int, int_int, goFor_some, items_seqL, items_seqT, Option.map_some, Bool.not_true, Bool.not_false, decide_true, decide_false, List.cons_append, List.nil_append]
  rw [t__law_right_16]
  simp only [ss_cons, ss_nil, s_set, s_seto, s_par, s_unp, s_app, s_setr, s_setrp, s_ext, s_seti, s_drop, s_cond, s_for, s_ret, s_retN, s_frz, thenS_nx, thenS_rt, endF_rt, endF_nx, bind_ok', st_ok', asB_ok, of_some, List.set_cons_succ, List.set_cons_zero, List.getElem?_cons_zero, List.getElem?_cons_succ, List.length_cons, List.length_nil, if_true, setAll, ownAll, List.zip_cons_cons, List.zip_nil_left, List.zip_nil_right, List.foldl_cons, List.foldl_nil, Bool.false_eq_true, if_false, reduceIte, ev_cst, ev_var, ev_tup, ev_lst, ev_op, ev_neg, ev_cmp, ev_cmp2, ev_and, ev_or, ev_not, ev_ite, ev_call, ev_b1, ev_b2, ev_isa, ev_m1, ev_idx, ev_slB, ev_slL, ev_slH, ev_dic0, ev_sp, evs_nil, evs_cons, evAnd_one, evAnd_cons, evOr_one, evOr_cons, vx_view, vx_cst, vx_var, vx_glb, vx_tup, vx_lst, vx_op, vx_neg, vx_not, vx_cmp, vx_and, vx_ite, vx_call, vx_callk, vx_b1, vx_b2, vx_m1, vx_idx, vx_slB, vx_slL, vx_slH, vx_dic0, vx_sp, vx_cmp2, vx_isa, vx_or, cD_int, cD_str, cD_bl, cD_non, le_int, lt_int', gt_int', ge_int', is_non, isnt_non, eq_cmp, ne_cmp, in_cmp, nin_cmp, eqD_int, eqD_str, eqD_bl, add_int, sub_int, len_lst, len_tup, tup_lst, tup_tup, abs_int, int_int, goFor_some, items_seqL, items_seqT, Option.map_some, Bool.not_true, Bool.not_false, decide_true, decide_false, slL_2, A2]
  rw [add_l (by simp)]
  simp only [ss_cons, ss_nil, s_set, s_seto, s_par, s_unp, s_app, s_setr, s_setrp, s_ext, s_seti, s_drop, s_cond, s_for, s_ret, s_retN, s_frz, thenS_nx, thenS_rt, endF_rt, endF_nx, bind_ok', st_ok', asB_ok, of_some, List.set_cons_succ, List.set_cons_zero, List.getElem?_cons_zero, List.getElem?_cons_succ, List.length_cons, List.length_nil, if_true, setAll, ownAll, List.zip_cons_cons, List.zip_nil_left, List.zip_nil_right, List.foldl_cons, List.foldl_nil, Bool.false_eq_true, if_false, reduceIte, ev_cst, ev_var, ev_tup, ev_lst, ev_op, ev_neg, ev_cmp, ev_cmp2, ev_and, ev_or, ev_not, ev_ite, ev_call, ev_b1, ev_b2, ev_isa, ev_m1, ev_idx, ev_slB, ev_slL, ev_slH, ev_dic0, ev_sp, evs_nil, evs_cons, evAnd_one, evAnd_cons, evOr_one, evOr_cons, vx_view, vx_cst, vx_var, vx_glb, vx_tup, vx_lst, vx_op, vx_neg, vx_not, vx_cmp, vx_and, vx_ite, vx_call, vx_callk, vx_b1, vx_b2, vx_m1, vx_idx, vx_slB, vx_slL, vx_slH, vx_dic0, vx_sp, vx_cmp2, vx_isa, vx_or, cD_int, cD_str, cD_bl, cD_non, le_int, lt_int', gt_int', ge_int', is_non, isnt_non, eq_cmp, ne_cmp, in_cmp, nin_cmp, eqD_int, eqD_str, eqD_bl, add_int, sub_int, len_lst, len_tup, tup_lst, tup_tup, abs_int, int_int, goFor_some, items_seqL, items_seqT, Option.map_some, Bool.not_true, Bool.not_false, decide_true, decide_false, List.cons_append, List.nil_append]
  rw [e]
  simp only [ss_cons, ss_nil, s_set, s_seto, s_par, s_unp, s_app, s_setr, s_setrp, s_ext, s_seti, s_drop, s_cond, s_for, s_ret, s_retN, s_frz, thenS_nx, thenS_rt, endF_rt, endF_nx, bind_ok', st_ok', asB_ok, of_some, List.set_cons_succ, List.set_cons_zero, List.getElem?_cons_zero, List.getElem?_cons_succ, List.length_cons, List.length_nil, if_true, setAll, ownAll, List.zip_cons_cons, List.zip_nil_left, List.zip_nil_right, List.foldl_cons, List.foldl_nil, Bool.false_eq_true, if_false, reduceIte, ev_cst, ev_var, ev_tup, ev_lst, ev_op, ev_neg, ev_cmp, ev_cmp2, ev_and, ev_or, ev_not, ev_ite, ev_call, ev_b1, ev_b2, ev_isa, ev_m1, ev_idx, ev_slB, ev_slL, ev_slH, ev_dic0, ev_sp, evs_nil, evs_cons, evAnd_one, evAnd_cons, evOr_one, evOr_cons, vx_view, vx_cst, vx_var, vx_glb, vx_tup, vx_lst, vx_op, vx_neg, vx_not, vx_cmp, vx_and, vx_ite, vx_call, vx_callk, vx_b1, vx_b2, vx_m1, vx_idx, vx_slB, vx_slL, vx_slH, vx_dic0, vx_sp, vx_cmp2, vx_isa, vx_or, cD_int, cD_str, cD_bl, cD_non, le_int, lt_int', gt_int', ge_int', is_non, isnt_non, eq_cmp, ne_cmp, in_cmp, nin_cmp, eqD_int, eqD_str, eqD_bl, add_int, sub_int, len_lst, len_tup, tup_lst, tup_tup, abs_int, int_int, goFor_some, items_seqL, items_seqT, Option.map_some, Bool.not_true, Bool.not_false, decide_true, decide_false]
  exact eB
end L89

set_option linter.all false
set_option maxRecDepth 100000
set_option maxHeartbeats 4000000
namespace L89
open PySem Mi L2
/-! A18: the law's run, and the law. -/
theorem part_A1 {k : Nat} (hk : 8 ≤ k) {L p n : Nat} {m : Mu} (h : Pots PB L m) (hp : p < L) (h2 : 2 ≤ n) (h4 : n ≤ 4) {xs us ys : List Int} (hx : Say n xs) (hy : Say n ys) (hl : us.length = 2 ^ n) {lo hi : Int} (hb : ∀ w ∈ us, lo ≤ w ∧ w ≤ hi) (hlh : hi - lo ≤ 99) (a3 a4 a5 a6 a7 a8 a9 a10 a11 a12 a13 a14 a15 a20 a21 a22 a23 a24 : Slot) :
    ∃ m', evSs (gg k) 1000 t__law_right_6 [.val (.ref p), .val (.int n), .val (tabD n true us), a3, a4, a5, a6, a7, a8, a9, a10, a11, a12, a13, a14, a15, .val (PL n), .val (LL n), .val (tabD n true xs), .val (tabD n true ys), a20, a21, a22, a23, a24] m = .rt (.bl true) m' ∧ Pots PB L m' := by
  have l32 := len32 (n := n) (by omega)
  have p0 := two_ne n
  have c1 : ev (gg k) x__law_right_1 [.val (.ref p), .val (.int n), .val (tabD n true us), a3, a4, a5, a6, a7, a8, a9, a10, a11, a12, a13, a14, a15, .val (PL n), .val (LL n), .val (tabD n true xs), .val (tabD n true ys), a20, a21, a22, a23, a24] m = .ok (.lst ((us.map fun w => w - W us 0).map D.int)) m := by
    rw [x__law_right_1, comp_map us D.int (fun w => .int (w - W us 0)) (ds := [.lst (us.map D.int)]) (by
      simp only [evx_cons, evx_nil]
      simp only [ss_cons, ss_nil, s_set, s_seto, s_par, s_unp, s_app, s_setr, s_setrp, s_ext, s_seti, s_drop, s_cond, s_for, s_ret, s_retN, s_frz, thenS_nx, thenS_rt, endF_rt, endF_nx, bind_ok', st_ok', asB_ok, of_some, List.set_cons_succ, List.set_cons_zero, List.getElem?_cons_zero, List.getElem?_cons_succ, List.length_cons, List.length_nil, if_true, setAll, ownAll, List.zip_cons_cons, List.zip_nil_left, List.zip_nil_right, List.foldl_cons, List.foldl_nil, Bool.false_eq_true, if_false, reduceIte, ev_cst, ev_var, ev_tup, ev_lst, ev_op, ev_neg, ev_cmp, ev_cmp2, ev_and, ev_or, ev_not, ev_ite, ev_call, ev_b1, ev_b2, ev_isa, ev_m1, ev_idx, ev_slB, ev_slL, ev_slH, ev_dic0, ev_sp, evs_nil, evs_cons, evAnd_one, evAnd_cons, evOr_one, evOr_cons, vx_view, vx_cst, vx_var, vx_glb, vx_tup, vx_lst, vx_op, vx_neg, vx_not, vx_cmp, vx_and, vx_ite, vx_call, vx_callk, vx_b1, vx_b2, vx_m1, vx_idx, vx_slB, vx_slL, vx_slH, vx_dic0, vx_sp, vx_cmp2, vx_isa, vx_or, cD_int, cD_str, cD_bl, cD_non, le_int, lt_int', gt_int', ge_int', is_non, isnt_non, eq_cmp, ne_cmp, in_cmp, nin_cmp, eqD_int, eqD_str, eqD_bl, add_int, sub_int, len_lst, len_tup, tup_lst, tup_tup, abs_int, int_int, goFor_some, items_seqL, items_seqT, Option.map_some, Bool.not_true, Bool.not_false, decide_true, decide_false, idx1_tab, seqD]) rfl (fun w _ => ⟨_, rfl, by
        have i0 := idx_ws (b := true) (ws := us) (by omega) m
        simp only [List.map_cons, List.map_nil, wipe_cons, wipe_nil]
        simp only [ss_cons, ss_nil, s_set, s_seto, s_par, s_unp, s_app, s_setr, s_setrp, s_ext, s_seti, s_drop, s_cond, s_for, s_ret, s_retN, s_frz, thenS_nx, thenS_rt, endF_rt, endF_nx, bind_ok', st_ok', asB_ok, of_some, List.set_cons_succ, List.set_cons_zero, List.getElem?_cons_zero, List.getElem?_cons_succ, List.length_cons, List.length_nil, if_true, setAll, ownAll, List.zip_cons_cons, List.zip_nil_left, List.zip_nil_right, List.foldl_cons, List.foldl_nil, Bool.false_eq_true, if_false, reduceIte, ev_cst, ev_var, ev_tup, ev_lst, ev_op, ev_neg, ev_cmp, ev_cmp2, ev_and, ev_or, ev_not, ev_ite, ev_call, ev_b1, ev_b2, ev_isa, ev_m1, ev_idx, ev_slB, ev_slL, ev_slH, ev_dic0, ev_sp, evs_nil, evs_cons, evAnd_one, evAnd_cons, evOr_one, evOr_cons, vx_view, vx_cst, vx_var, vx_glb, vx_tup, vx_lst, vx_op, vx_neg, vx_not, vx_cmp, vx_and, vx_ite, vx_call, vx_callk, vx_b1, vx_b2, vx_m1, vx_idx, vx_slB, vx_slL, vx_slH, vx_dic0, vx_sp, vx_cmp2, vx_isa, vx_or, cD_int, cD_str, cD_bl, cD_non, le_int, lt_int', gt_int', ge_int', is_non, isnt_non, eq_cmp, ne_cmp, in_cmp, nin_cmp, eqD_int, eqD_str, eqD_bl, add_int, sub_int, len_lst, len_tup, tup_lst, tup_tup, abs_int, int_int, goFor_some, items_seqL, items_seqT, Option.map_some, Bool.not_true, Bool.not_false, decide_true, decide_false, idx1_tab, i0]⟩) (by omega), List.map_map]
    rfl
  have w0 : W us 0 ∈ us := by
    unfold W
    rw [List.getD_eq_getElem?_getD, List.getElem?_eq_getElem (by omega)]
    exact List.getElem_mem _
  have hw : Tab n (us.map fun w => w - W us 0) := ⟨by omega, by omega, by rw [List.length_map, hl], fun x hx => by
    obtain ⟨w, hw, rfl⟩ := List.mem_map.mp hx
    have := hb w hw
    have := hb _ w0
    omega⟩
  have z : W (us.map fun w => w - W us 0) 0 = 0 := by
    cases us with
    | nil =>
      simp at hl
      omega
    | cons a r => simp [W]
  generalize (us.map fun w => w - W us 0) = ws at c1 hw z
  have sl := l_sum_for (k := k) (by omega) m (n := n) (n' := n) (l := xs) (w := ws) (hx.bd.mono (by decide)) (hw.bd.mono (by decide)) (by rw [hx.len]; omega)
  have sr := r_sum_for (k := k) (by omega) m hx hw
  have ig := l_is_good (k := k) (by omega) m (top2_tab n true ws)
  have gp : goodP (tabD n true ws) = (plainI n).all fun row => decide (0 ≤ dot row ws) := by
    unfold goodP
    rw [good_plain (by omega) (by omega), nOf_tab, wsOf_tab, z, tab_is (by omega) (by omega) hw.len fun _ _ => rfl]
    rfl
  have c2 : ∀ a3 a4 : Slot, ev (gg k) x__law_right_2 [.val (.ref p), .val (.int n), .val (tabD n true ws), a3, a4, a5, a6, a7, a8, a9, a10, a11, a12, a13, a14, a15, .val (PL n), .val (LL n), .val (tabD n true xs), .val (tabD n true ys), a20, a21, a22, a23, a24] m = .ok (.lst (((plainI n).map fun row => decide (0 ≤ dot row ws)).map D.bl)) m := fun a3 a4 => by
    obtain ⟨p1, p2, p3⟩ := plain_rows h2 h4
    rw [x__law_right_2, comp_map (plainI n) (tabD n true) (fun row => .bl (decide (0 ≤ dot row ws))) (ds := [PL n]) (by
      simp only [evx_cons, evx_nil]
      simp only [ss_cons, ss_nil, s_set, s_seto, s_par, s_unp, s_app, s_setr, s_setrp, s_ext, s_seti, s_drop, s_cond, s_for, s_ret, s_retN, s_frz, thenS_nx, thenS_rt, endF_rt, endF_nx, bind_ok', st_ok', asB_ok, of_some, List.set_cons_succ, List.set_cons_zero, List.getElem?_cons_zero, List.getElem?_cons_succ, List.length_cons, List.length_nil, if_true, setAll, ownAll, List.zip_cons_cons, List.zip_nil_left, List.zip_nil_right, List.foldl_cons, List.foldl_nil, Bool.false_eq_true, if_false, reduceIte, ev_cst, ev_var, ev_tup, ev_lst, ev_op, ev_neg, ev_cmp, ev_cmp2, ev_and, ev_or, ev_not, ev_ite, ev_call, ev_b1, ev_b2, ev_isa, ev_m1, ev_idx, ev_slB, ev_slL, ev_slH, ev_dic0, ev_sp, evs_nil, evs_cons, evAnd_one, evAnd_cons, evOr_one, evOr_cons, vx_view, vx_cst, vx_var, vx_glb, vx_tup, vx_lst, vx_op, vx_neg, vx_not, vx_cmp, vx_and, vx_ite, vx_call, vx_callk, vx_b1, vx_b2, vx_m1, vx_idx, vx_slB, vx_slL, vx_slH, vx_dic0, vx_sp, vx_cmp2, vx_isa, vx_or, cD_int, cD_str, cD_bl, cD_non, le_int, lt_int', gt_int', ge_int', is_non, isnt_non, eq_cmp, ne_cmp, in_cmp, nin_cmp, eqD_int, eqD_str, eqD_bl, add_int, sub_int, len_lst, len_tup, tup_lst, tup_tup, abs_int, int_int, goFor_some, items_seqL, items_seqT, Option.map_some, Bool.not_true, Bool.not_false, decide_true, decide_false]) rfl (fun row hr => ⟨_, rfl, by
        have e := l_sum_for (k := k) (by omega) m (n := n) (n' := n) (l := row) (w := ws) (fun x hx => by have := (p3 row hr).2 x hx; omega) (hw.bd.mono (by decide)) (by rw [(p3 row hr).1]; omega)
        simp only [List.map_cons, List.map_nil, wipe_cons, wipe_nil]
        simp only [ss_cons, ss_nil, s_set, s_seto, s_par, s_unp, s_app, s_setr, s_setrp, s_ext, s_seti, s_drop, s_cond, s_for, s_ret, s_retN, s_frz, thenS_nx, thenS_rt, endF_rt, endF_nx, bind_ok', st_ok', asB_ok, of_some, List.set_cons_succ, List.set_cons_zero, List.getElem?_cons_zero, List.getElem?_cons_succ, List.length_cons, List.length_nil, if_true, setAll, ownAll, List.zip_cons_cons, List.zip_nil_left, List.zip_nil_right, List.foldl_cons, List.foldl_nil, Bool.false_eq_true, if_false, reduceIte, ev_cst, ev_var, ev_tup, ev_lst, ev_op, ev_neg, ev_cmp, ev_cmp2, ev_and, ev_or, ev_not, ev_ite, ev_call, ev_b1, ev_b2, ev_isa, ev_m1, ev_idx, ev_slB, ev_slL, ev_slH, ev_dic0, ev_sp, evs_nil, evs_cons, evAnd_one, evAnd_cons, evOr_one, evOr_cons, vx_view, vx_cst, vx_var, vx_glb, vx_tup, vx_lst, vx_op, vx_neg, vx_not, vx_cmp, vx_and, vx_ite, vx_call, vx_callk, vx_b1, vx_b2, vx_m1, vx_idx, vx_slB, vx_slL, vx_slH, vx_dic0, vx_sp, vx_cmp2, vx_isa, vx_or, cD_int, cD_str, cD_bl, cD_non, le_int, lt_int', gt_int', ge_int', is_non, isnt_non, eq_cmp, ne_cmp, in_cmp, nin_cmp, eqD_int, eqD_str, eqD_bl, add_int, sub_int, len_lst, len_tup, tup_lst, tup_tup, abs_int, int_int, goFor_some, items_seqL, items_seqT, Option.map_some, Bool.not_true, Bool.not_false, decide_true, decide_false, e]⟩) (by omega), List.map_map]
    rfl
  have db : ∀ x ∈ xs.zip ws, True := fun _ _ => trivial
  have dotb : -100000 ≤ dot xs ws ∧ dot xs ws ≤ 100000 := by
    have s := sum_bd (lo := -891) (hi := 891) ((xs.zip ws).map fun q => q.1 * q.2) (fun x hx' => by
      obtain ⟨q, hq, rfl⟩ := List.mem_map.mp hx'
      have hq := List.of_mem_zip (a := q.1) (b := q.2) hq
      have b1 := hx.bd _ hq.1
      have b2 := hw.bd _ hq.2
      have g1 : (q.1 * q.2).natAbs ≤ 9 * 99 := by
        rw [Int.natAbs_mul]
        exact Nat.mul_le_mul (by omega) (by omega)
      omega)
    rw [List.length_map, List.length_zip, hx.len, hw.len, Nat.min_self] at s
    unfold dot
    omega
  obtain ⟨x, hr⟩ := rep2 (nice_int (i := dot xs ws) (by omega)) (by decide) (by decide)
  obtain ⟨m', e, p'⟩ := part_A2 hk h hp h2 h4 hx hy hw (.val (.bl (goodP (tabD n true ws)))) a5 a6 a7 a8 a9 a10 a11 a12 a13 a14 a15 a20 a21 a22 a23 a24
  refine ⟨m', ?_, p'⟩
  have tb : D.tup [.int (n : Int), .lst (ws.map D.int)] = tabD n true ws := rfl
  rw [t__law_right_6]
  simp only [ss_cons, ss_nil, s_set, s_seto, s_par, s_unp, s_app, s_setr, s_setrp, s_ext, s_seti, s_drop, s_cond, s_for, s_ret, s_retN, s_frz, thenS_nx, thenS_rt, endF_rt, endF_nx, bind_ok', st_ok', asB_ok, of_some, List.set_cons_succ, List.set_cons_zero, List.getElem?_cons_zero, List.getElem?_cons_succ, List.length_cons, List.length_nil, if_true, setAll, ownAll, List.zip_cons_cons, List.zip_nil_left, List.zip_nil_right, List.foldl_cons, List.foldl_nil, Bool.false_eq_true, if_false, reduceIte, ev_cst, ev_var, ev_tup, ev_lst, ev_op, ev_neg, ev_cmp, ev_cmp2, ev_and, ev_or, ev_not, ev_ite, ev_call, ev_b1, ev_b2, ev_isa, ev_m1, ev_idx, ev_slB, ev_slL, ev_slH, ev_dic0, ev_sp, evs_nil, evs_cons, evAnd_one, evAnd_cons, evOr_one, evOr_cons, vx_view, vx_cst, vx_var, vx_glb, vx_tup, vx_lst, vx_op, vx_neg, vx_not, vx_cmp, vx_and, vx_ite, vx_call, vx_callk, vx_b1, vx_b2, vx_m1, vx_idx, vx_slB, vx_slL, vx_slH, vx_dic0, vx_sp, vx_cmp2, vx_isa, vx_or, cD_int, cD_str, cD_bl, cD_non, le_int, lt_int', gt_int', ge_int', is_non, isnt_non, eq_cmp, ne_cmp, in_cmp, nin_cmp, eqD_int, eqD_str, eqD_bl, add_int, sub_int, len_lst, len_tup, tup_lst, tup_tup, abs_int, int_int, goFor_some, items_seqL, items_seqT, Option.map_some, Bool.not_true, Bool.not_false, decide_true, decide_false, v_x__law_right_1, c1, tb]
  rw [t__law_right_7]
  simp only [ss_cons, ss_nil, s_set, s_seto, s_par, s_unp, s_app, s_setr, s_setrp, s_ext, s_seti, s_drop, s_cond, s_for, s_ret, s_retN, s_frz, thenS_nx, thenS_rt, endF_rt, endF_nx, bind_ok', st_ok', asB_ok, of_some, List.set_cons_succ, List.set_cons_zero, List.getElem?_cons_zero, List.getElem?_cons_succ, List.length_cons, List.length_nil, if_true, setAll, ownAll, List.zip_cons_cons, List.zip_nil_left, List.zip_nil_right, List.foldl_cons, List.foldl_nil, Bool.false_eq_true, if_false, reduceIte, ev_cst, ev_var, ev_tup, ev_lst, ev_op, ev_neg, ev_cmp, ev_cmp2, ev_and, ev_or, ev_not, ev_ite, ev_call, ev_b1, ev_b2, ev_isa, ev_m1, ev_idx, ev_slB, ev_slL, ev_slH, ev_dic0, ev_sp, evs_nil, evs_cons, evAnd_one, evAnd_cons, evOr_one, evOr_cons, vx_view, vx_cst, vx_var, vx_glb, vx_tup, vx_lst, vx_op, vx_neg, vx_not, vx_cmp, vx_and, vx_ite, vx_call, vx_callk, vx_b1, vx_b2, vx_m1, vx_idx, vx_slB, vx_slL, vx_slH, vx_dic0, vx_sp, vx_cmp2, vx_isa, vx_or, cD_int, cD_str, cD_bl, cD_non, le_int, lt_int', gt_int', ge_int', is_non, isnt_non, eq_cmp, ne_cmp, in_cmp, nin_cmp, eqD_int, eqD_str, eqD_bl, add_int, sub_int, len_lst, len_tup, tup_lst, tup_tup, abs_int, int_int, goFor_some, items_seqL, items_seqT, Option.map_some, Bool.not_true, Bool.not_false, decide_true, decide_false, sl]
  rw [t__law_right_8]
  simp only [ss_cons, ss_nil, s_set, s_seto, s_par, s_unp, s_app, s_setr, s_setrp, s_ext, s_seti, s_drop, s_cond, s_for, s_ret, s_retN, s_frz, thenS_nx, thenS_rt, endF_rt, endF_nx, bind_ok', st_ok', asB_ok, of_some, List.set_cons_succ, List.set_cons_zero, List.getElem?_cons_zero, List.getElem?_cons_succ, List.length_cons, List.length_nil, if_true, setAll, ownAll, List.zip_cons_cons, List.zip_nil_left, List.zip_nil_right, List.foldl_cons, List.foldl_nil, Bool.false_eq_true, if_false, reduceIte, ev_cst, ev_var, ev_tup, ev_lst, ev_op, ev_neg, ev_cmp, ev_cmp2, ev_and, ev_or, ev_not, ev_ite, ev_call, ev_b1, ev_b2, ev_isa, ev_m1, ev_idx, ev_slB, ev_slL, ev_slH, ev_dic0, ev_sp, evs_nil, evs_cons, evAnd_one, evAnd_cons, evOr_one, evOr_cons, vx_view, vx_cst, vx_var, vx_glb, vx_tup, vx_lst, vx_op, vx_neg, vx_not, vx_cmp, vx_and, vx_ite, vx_call, vx_callk, vx_b1, vx_b2, vx_m1, vx_idx, vx_slB, vx_slL, vx_slH, vx_dic0, vx_sp, vx_cmp2, vx_isa, vx_or, cD_int, cD_str, cD_bl, cD_non, le_int, lt_int', gt_int', ge_int', is_non, isnt_non, eq_cmp, ne_cmp, in_cmp, nin_cmp, eqD_int, eqD_str, eqD_bl, add_int, sub_int, len_lst, len_tup, tup_lst, tup_tup, abs_int, int_int, goFor_some, items_seqL, items_seqT, Option.map_some, Bool.not_true, Bool.not_false, decide_true, decide_false, sr, ev_callk, permD, List.foldr_cons, List.foldr_nil, List.nil_append, hr]
  rw [t__law_right_9]
  simp only [ss_cons, ss_nil, s_set, s_seto, s_par, s_unp, s_app, s_setr, s_setrp, s_ext, s_seti, s_drop, s_cond, s_for, s_ret, s_retN, s_frz, thenS_nx, thenS_rt, endF_rt, endF_nx, bind_ok', st_ok', asB_ok, of_some, List.set_cons_succ, List.set_cons_zero, List.getElem?_cons_zero, List.getElem?_cons_succ, List.length_cons, List.length_nil, if_true, setAll, ownAll, List.zip_cons_cons, List.zip_nil_left, List.zip_nil_right, List.foldl_cons, List.foldl_nil, Bool.false_eq_true, if_false, reduceIte, ev_cst, ev_var, ev_tup, ev_lst, ev_op, ev_neg, ev_cmp, ev_cmp2, ev_and, ev_or, ev_not, ev_ite, ev_call, ev_b1, ev_b2, ev_isa, ev_m1, ev_idx, ev_slB, ev_slL, ev_slH, ev_dic0, ev_sp, evs_nil, evs_cons, evAnd_one, evAnd_cons, evOr_one, evOr_cons, vx_view, vx_cst, vx_var, vx_glb, vx_tup, vx_lst, vx_op, vx_neg, vx_not, vx_cmp, vx_and, vx_ite, vx_call, vx_callk, vx_b1, vx_b2, vx_m1, vx_idx, vx_slB, vx_slL, vx_slH, vx_dic0, vx_sp, vx_cmp2, vx_isa, vx_or, cD_int, cD_str, cD_bl, cD_non, le_int, lt_int', gt_int', ge_int', is_non, isnt_non, eq_cmp, ne_cmp, in_cmp, nin_cmp, eqD_int, eqD_str, eqD_bl, add_int, sub_int, len_lst, len_tup, tup_lst, tup_tup, abs_int, int_int, goFor_some, items_seqL, items_seqT, Option.map_some, Bool.not_true, Bool.not_false, decide_true, decide_false, ig]
  rw [t__law_right_10]
  have al : (((plainI n).map fun row => decide (0 ≤ dot row ws)).all id) = goodP (tabD n true ws) := by
    rw [gp, List.all_map]
    rfl
  simp only [ss_cons, ss_nil, s_set, s_seto, s_par, s_unp, s_app, s_setr, s_setrp, s_ext, s_seti, s_drop, s_cond, s_for, s_ret, s_retN, s_frz, thenS_nx, thenS_rt, endF_rt, endF_nx, bind_ok', st_ok', asB_ok, of_some, List.set_cons_succ, List.set_cons_zero, List.getElem?_cons_zero, List.getElem?_cons_succ, List.length_cons, List.length_nil, if_true, setAll, ownAll, List.zip_cons_cons, List.zip_nil_left, List.zip_nil_right, List.foldl_cons, List.foldl_nil, Bool.false_eq_true, if_false, reduceIte, ev_cst, ev_var, ev_tup, ev_lst, ev_op, ev_neg, ev_cmp, ev_cmp2, ev_and, ev_or, ev_not, ev_ite, ev_call, ev_b1, ev_b2, ev_isa, ev_m1, ev_idx, ev_slB, ev_slL, ev_slH, ev_dic0, ev_sp, evs_nil, evs_cons, evAnd_one, evAnd_cons, evOr_one, evOr_cons, vx_view, vx_cst, vx_var, vx_glb, vx_tup, vx_lst, vx_op, vx_neg, vx_not, vx_cmp, vx_and, vx_ite, vx_call, vx_callk, vx_b1, vx_b2, vx_m1, vx_idx, vx_slB, vx_slL, vx_slH, vx_dic0, vx_sp, vx_cmp2, vx_isa, vx_or, cD_int, cD_str, cD_bl, cD_non, le_int, lt_int', gt_int', ge_int', is_non, isnt_non, eq_cmp, ne_cmp, in_cmp, nin_cmp, eqD_int, eqD_str, eqD_bl, add_int, sub_int, len_lst, len_tup, tup_lst, tup_tup, abs_int, int_int, goFor_some, items_seqL, items_seqT, Option.map_some, Bool.not_true, Bool.not_false, decide_true, decide_false, v_x__law_right_2, c2, all_bls, al]
  exact e
theorem plain_cnt {n : Nat} (h2 : 2 ≤ n) (h4 : n ≤ 4) (m : Mu) : idxD m (.lst [.int 3, .int 9, .int 28]) (.int ((n : Int) - 2)) = some (.int ((plainI n).length : Nat)) := by
  have e2 : (plainI 2).length = 3 := by decide +kernel
  have e3 : (plainI 3).length = 9 := by decide +kernel
  have e4 : (plainI 4).length = 28 := by decide +kernel
  have : n = 2 ∨ n = 3 ∨ n = 4 := by omega
  rcases this with rfl | rfl | rfl
  · rw [e2]
    rfl
  · rw [e3]
    rfl
  · rw [e4]
    rfl
theorem l_right {k : Nat} (hk : 9 ≤ k) {L p : Nat} {m : Mu} (h : Pots PB L m) (hp : p < L) : ∃ m', callF txt.fs txt.consts 1000 k i__law_right [.ref p] m = .ok (.bl true) m' ∧ Pots PB L m' := by
  rw [cl_u (by omega) h__law_right rfl]
  obtain ⟨c, m1, e1, ⟨q0, q1⟩, p1⟩ := l_draw (k := k - 1) (by omega) h hp (many := 3) (by decide) (by decide)
  obtain ⟨n, hn⟩ : ∃ n : Nat, (2 : Int) + c = n := ⟨(2 + c).toNat, by omega⟩
  have h2 : 2 ≤ n := by omega
  have h4 : n ≤ 4 := by omega
  have l32 := len32 (n := n) (by omega)
  have lp := l_plain (k := k - 1) (by omega) m1 h2 h4
  have lo := l_lots (k := k - 1) (by omega) m1 (n := n) (by omega)
  have rp := r_plain_sayings (k := k - 1) (by omega) m1 h2 h4
  obtain ⟨x, hr⟩ := rep2 (plain_nice h2 h4) (by decide) (by decide)
  unfold PL at hr
  obtain ⟨xs, m2, e2, x1, x2, p2⟩ := l_saying (k := k - 1) (by omega) p1 hp h2 h4
  obtain ⟨r1, r2, r3⟩ := plain_rows h2 h4
  obtain ⟨d, m3, e3, hd, p3⟩ := l_pick (k := k - 1) (by omega) p2 hp (xs := (plainI n).map (tabD n true)) (by simpa using r1) (by simp; omega)
  obtain ⟨ys, hys, rfl⟩ := List.mem_map.mp hd
  have hx : Say n xs := ⟨h2, h4, x1, x2.mono (by decide)⟩
  have hy : Say n ys := ⟨h2, h4, (r3 ys hys).1, fun x hx => by have := (r3 ys hys).2 x hx; omega⟩
  obtain ⟨c4, m4, e4, ⟨q4, q5⟩, p4⟩ := l_draw (k := k - 1) (by omega) p3 hp (many := 2) (by decide) (by decide)
  have pc := plain_cnt h2 h4 m1
  have start : ∃ m', evSs (gg (k - 1)) 1000 t__law_right_5 [.val (.ref p), .val (.int n), .un, .un, .un, .un, .un, .un, .un, .un, .un, .un, .un, .un, .un, .un, .val (PL n), .val (LL n), .val (tabD n true xs), .val (tabD n true ys), .un, .un, .un, .un, .un] m3 = .rt (.bl true) m' ∧ Pots PB L m' := by
    rw [t__law_right_5]
    by_cases z : c4 = 0
    · obtain ⟨us, m5, e5, u1, u2, p5⟩ := l_less_table (k := k - 1) (by omega) p4 hp h2 h4
      obtain ⟨m', e, p'⟩ := part_A1 (k := k - 1) (by omega) p5 hp h2 h4 hx hy u1 u2 (by decide) .un .un .un .un .un .un .un .un .un .un .un .un .un .un .un .un .un .un
      refine ⟨m', ?_, p'⟩
      simp only [ss_cons, ss_nil, s_set, s_seto, s_par, s_unp, s_app, s_setr, s_setrp, s_ext, s_seti, s_drop, s_cond, s_for, s_ret, s_retN, s_frz, thenS_nx, thenS_rt, endF_rt, endF_nx, bind_ok', st_ok', asB_ok, of_some, List.set_cons_succ, List.set_cons_zero, List.getElem?_cons_zero, List.getElem?_cons_succ, List.length_cons, List.length_nil, if_true, setAll, ownAll, List.zip_cons_cons, List.zip_nil_left, List.zip_nil_right, List.foldl_cons, List.foldl_nil, Bool.false_eq_true, if_false, reduceIte, ev_cst, ev_var, ev_tup, ev_lst, ev_op, ev_neg, ev_cmp, ev_cmp2, ev_and, ev_or, ev_not, ev_ite, ev_call, ev_b1, ev_b2, ev_isa, ev_m1, ev_idx, ev_slB, ev_slL, ev_slH, ev_dic0, ev_sp, evs_nil, evs_cons, evAnd_one, evAnd_cons, evOr_one, evOr_cons, vx_view, vx_cst, vx_var, vx_glb, vx_tup, vx_lst, vx_op, vx_neg, vx_not, vx_cmp, vx_and, vx_ite, vx_call, vx_callk, vx_b1, vx_b2, vx_m1, vx_idx, vx_slB, vx_slL, vx_slH, vx_dic0, vx_sp, vx_cmp2, vx_isa, vx_or, cD_int, cD_str, cD_bl, cD_non, le_int, lt_int', gt_int', ge_int', is_non, isnt_non, eq_cmp, ne_cmp, in_cmp, nin_cmp, eqD_int, eqD_str, eqD_bl, add_int, sub_int, len_lst, len_tup, tup_lst, tup_tup, abs_int, int_int, goFor_some, items_seqL, items_seqT, Option.map_some, Bool.not_true, Bool.not_false, decide_true, decide_false, e4, z, e5]
      exact e
    · obtain ⟨us, m5, e5, u1, u2, p5⟩ := draw_comp0 (k := k - 1) (by omega) p4 hp (own := [(Str.ofString "lot", 20)]) (i := 20) (a := 0) (q := 9) (by decide) (by decide) (ik := .seq) (its := (.cons (.var 17) .nil)) (r := [.val (.ref p), .val (.int n), .un, .un, .un, .un, .un, .un, .un, .un, .un, .un, .un, .un, .un, .un, .val (PL n), .val (LL n), .val (tabD n true xs), .val (tabD n true ys), .un, .un, .un, .un, .un]) (m1 := m4) (ds := [LL n]) (by
        simp only [evx_cons, evx_nil]
        simp only [ss_cons, ss_nil, s_set, s_seto, s_par, s_unp, s_app, s_setr, s_setrp, s_ext, s_seti, s_drop, s_cond, s_for, s_ret, s_retN, s_frz, thenS_nx, thenS_rt, endF_rt, endF_nx, bind_ok', st_ok', asB_ok, of_some, List.set_cons_succ, List.set_cons_zero, List.getElem?_cons_zero, List.getElem?_cons_succ, List.length_cons, List.length_nil, if_true, setAll, ownAll, List.zip_cons_cons, List.zip_nil_left, List.zip_nil_right, List.foldl_cons, List.foldl_nil, Bool.false_eq_true, if_false, reduceIte, ev_cst, ev_var, ev_tup, ev_lst, ev_op, ev_neg, ev_cmp, ev_cmp2, ev_and, ev_or, ev_not, ev_ite, ev_call, ev_b1, ev_b2, ev_isa, ev_m1, ev_idx, ev_slB, ev_slL, ev_slH, ev_dic0, ev_sp, evs_nil, evs_cons, evAnd_one, evAnd_cons, evOr_one, evOr_cons, vx_view, vx_cst, vx_var, vx_glb, vx_tup, vx_lst, vx_op, vx_neg, vx_not, vx_cmp, vx_and, vx_ite, vx_call, vx_callk, vx_b1, vx_b2, vx_m1, vx_idx, vx_slB, vx_slL, vx_slH, vx_dic0, vx_sp, vx_cmp2, vx_isa, vx_or, cD_int, cD_str, cD_bl, cD_non, le_int, lt_int', gt_int', ge_int', is_non, isnt_non, eq_cmp, ne_cmp, in_cmp, nin_cmp, eqD_int, eqD_str, eqD_bl, add_int, sub_int, len_lst, len_tup, tup_lst, tup_tup, abs_int, int_int, goFor_some, items_seqL, items_seqT, Option.map_some, Bool.not_true, Bool.not_false, decide_true, decide_false]) p4 rfl (fun _ => rfl) (by rw [List.length_map, lots_len]; omega)
      have e5' : ev (gg (k - 1)) x__law_right_0 _ m4 = _ := e5
      obtain ⟨m', e, p'⟩ := part_A1 (k := k - 1) (by omega) p5 hp h2 h4 hx hy (by rw [u1, List.length_map, lots_len]) u2 (by decide) .un .un .un .un .un .un .un .un .un .un .un .un .un .un .un .un .un .un
      refine ⟨m', ?_, p'⟩
      have tb : D.tup [.int (n : Int), .lst (us.map D.int)] = tabD n true us := rfl
      simp only [ss_cons, ss_nil, s_set, s_seto, s_par, s_unp, s_app, s_setr, s_setrp, s_ext, s_seti, s_drop, s_cond, s_for, s_ret, s_retN, s_frz, thenS_nx, thenS_rt, endF_rt, endF_nx, bind_ok', st_ok', asB_ok, of_some, List.set_cons_succ, List.set_cons_zero, List.getElem?_cons_zero, List.getElem?_cons_succ, List.length_cons, List.length_nil, if_true, setAll, ownAll, List.zip_cons_cons, List.zip_nil_left, List.zip_nil_right, List.foldl_cons, List.foldl_nil, Bool.false_eq_true, if_false, reduceIte, ev_cst, ev_var, ev_tup, ev_lst, ev_op, ev_neg, ev_cmp, ev_cmp2, ev_and, ev_or, ev_not, ev_ite, ev_call, ev_b1, ev_b2, ev_isa, ev_m1, ev_idx, ev_slB, ev_slL, ev_slH, ev_dic0, ev_sp, evs_nil, evs_cons, evAnd_one, evAnd_cons, evOr_one, evOr_cons, vx_view, vx_cst, vx_var, vx_glb, vx_tup, vx_lst, vx_op, vx_neg, vx_not, vx_cmp, vx_and, vx_ite, vx_call, vx_callk, vx_b1, vx_b2, vx_m1, vx_idx, vx_slB, vx_slL, vx_slH, vx_dic0, vx_sp, vx_cmp2, vx_isa, vx_or, cD_int, cD_str, cD_bl, cD_non, le_int, lt_int', gt_int', ge_int', is_non, isnt_non, eq_cmp, ne_cmp, in_cmp, nin_cmp, eqD_int, eqD_str, eqD_bl, add_int, sub_int, len_lst, len_tup, tup_lst, tup_tup, abs_int, int_int, goFor_some, items_seqL, items_seqT, Option.map_some, Bool.not_true, Bool.not_false, decide_true, decide_false, e4, z, v_x__law_right_0, e5', tb]
      exact e
  obtain ⟨m', e, p'⟩ := start
  refine ⟨m', ?_, p'⟩
  simp only [f__law_right, startS, List.map_cons, List.map_nil, List.cons_append, List.nil_append, List.replicate]
  rw [t__law_right_0]
  simp only [ss_cons, ss_nil, s_set, s_seto, s_par, s_unp, s_app, s_setr, s_setrp, s_ext, s_seti, s_drop, s_cond, s_for, s_ret, s_retN, s_frz, thenS_nx, thenS_rt, endF_rt, endF_nx, bind_ok', st_ok', asB_ok, of_some, List.set_cons_succ, List.set_cons_zero, List.getElem?_cons_zero, List.getElem?_cons_succ, List.length_cons, List.length_nil, if_true, setAll, ownAll, List.zip_cons_cons, List.zip_nil_left, List.zip_nil_right, List.foldl_cons, List.foldl_nil, Bool.false_eq_true, if_false, reduceIte, ev_cst, ev_var, ev_tup, ev_lst, ev_op, ev_neg, ev_cmp, ev_cmp2, ev_and, ev_or, ev_not, ev_ite, ev_call, ev_b1, ev_b2, ev_isa, ev_m1, ev_idx, ev_slB, ev_slL, ev_slH, ev_dic0, ev_sp, evs_nil, evs_cons, evAnd_one, evAnd_cons, evOr_one, evOr_cons, vx_view, vx_cst, vx_var, vx_glb, vx_tup, vx_lst, vx_op, vx_neg, vx_not, vx_cmp, vx_and, vx_ite, vx_call, vx_callk, vx_b1, vx_b2, vx_m1, vx_idx, vx_slB, vx_slL, vx_slH, vx_dic0, vx_sp, vx_cmp2, vx_isa, vx_or, cD_int, cD_str, cD_bl, cD_non, le_int, lt_int', gt_int', ge_int', is_non, isnt_non, eq_cmp, ne_cmp, in_cmp, nin_cmp, eqD_int, eqD_str, eqD_bl, add_int, sub_int, len_lst, len_tup, tup_lst, tup_tup, abs_int, int_int, goFor_some, items_seqL, items_seqT, Option.map_some, Bool.not_true, Bool.not_false, decide_true, decide_false, e1, hn]
  rw [t__law_right_1]
  simp only [ss_cons, ss_nil, s_set, s_seto, s_par, s_unp, s_app, s_setr, s_setrp, s_ext, s_seti, s_drop, s_cond, s_for, s_ret, s_retN, s_frz, thenS_nx, thenS_rt, endF_rt, endF_nx, bind_ok', st_ok', asB_ok, of_some, List.set_cons_succ, List.set_cons_zero, List.getElem?_cons_zero, List.getElem?_cons_succ, List.length_cons, List.length_nil, if_true, setAll, ownAll, List.zip_cons_cons, List.zip_nil_left, List.zip_nil_right, List.foldl_cons, List.foldl_nil, Bool.false_eq_true, if_false, reduceIte, ev_cst, ev_var, ev_tup, ev_lst, ev_op, ev_neg, ev_cmp, ev_cmp2, ev_and, ev_or, ev_not, ev_ite, ev_call, ev_b1, ev_b2, ev_isa, ev_m1, ev_idx, ev_slB, ev_slL, ev_slH, ev_dic0, ev_sp, evs_nil, evs_cons, evAnd_one, evAnd_cons, evOr_one, evOr_cons, vx_view, vx_cst, vx_var, vx_glb, vx_tup, vx_lst, vx_op, vx_neg, vx_not, vx_cmp, vx_and, vx_ite, vx_call, vx_callk, vx_b1, vx_b2, vx_m1, vx_idx, vx_slB, vx_slL, vx_slH, vx_dic0, vx_sp, vx_cmp2, vx_isa, vx_or, cD_int, cD_str, cD_bl, cD_non, le_int, lt_int', gt_int', ge_int', is_non, isnt_non, eq_cmp, ne_cmp, in_cmp, nin_cmp, eqD_int, eqD_str, eqD_bl, add_int, sub_int, len_lst, len_tup, tup_lst, tup_tup, abs_int, int_int, goFor_some, items_seqL, items_seqT, Option.map_some, Bool.not_true, Bool.not_false, decide_true, decide_false, lp, lo]
  rw [t__law_right_2]
  simp only [ss_cons, ss_nil, s_set, s_seto, s_par, s_unp, s_app, s_setr, s_setrp, s_ext, s_seti, s_drop, s_cond, s_for, s_ret, s_retN, s_frz, thenS_nx, thenS_rt, endF_rt, endF_nx, bind_ok', st_ok', asB_ok, of_some, List.set_cons_succ, List.set_cons_zero, List.getElem?_cons_zero, List.getElem?_cons_succ, List.length_cons, List.length_nil, if_true, setAll, ownAll, List.zip_cons_cons, List.zip_nil_left, List.zip_nil_right, List.foldl_cons, List.foldl_nil, Bool.false_eq_true, if_false, reduceIte, ev_cst, ev_var, ev_tup, ev_lst, ev_op, ev_neg, ev_cmp, ev_cmp2, ev_and, ev_or, ev_not, ev_ite, ev_call, ev_b1, ev_b2, ev_isa, ev_m1, ev_idx, ev_slB, ev_slL, ev_slH, ev_dic0, ev_sp, evs_nil, evs_cons, evAnd_one, evAnd_cons, evOr_one, evOr_cons, vx_view, vx_cst, vx_var, vx_glb, vx_tup, vx_lst, vx_op, vx_neg, vx_not, vx_cmp, vx_and, vx_ite, vx_call, vx_callk, vx_b1, vx_b2, vx_m1, vx_idx, vx_slB, vx_slL, vx_slH, vx_dic0, vx_sp, vx_cmp2, vx_isa, vx_or, cD_int, cD_str, cD_bl, cD_non, le_int, lt_int', gt_int', ge_int', is_non, isnt_non, eq_cmp, ne_cmp, in_cmp, nin_cmp, eqD_int, eqD_str, eqD_bl, add_int, sub_int, len_lst, len_tup, tup_lst, tup_tup, abs_int, int_int, goFor_some, items_seqL, items_seqT, Option.map_some, Bool.not_true, Bool.not_false, decide_true, decide_false, rp, ev_callk, permD, List.foldr_cons, List.foldr_nil, List.nil_append, hr]
  rw [t__law_right_3]
  simp only [ss_cons, ss_nil, s_set, s_seto, s_par, s_unp, s_app, s_setr, s_setrp, s_ext, s_seti, s_drop, s_cond, s_for, s_ret, s_retN, s_frz, thenS_nx, thenS_rt, endF_rt, endF_nx, bind_ok', st_ok', asB_ok, of_some, List.set_cons_succ, List.set_cons_zero, List.getElem?_cons_zero, List.getElem?_cons_succ, List.length_cons, List.length_nil, if_true, setAll, ownAll, List.zip_cons_cons, List.zip_nil_left, List.zip_nil_right, List.foldl_cons, List.foldl_nil, Bool.false_eq_true, if_false, reduceIte, ev_cst, ev_var, ev_tup, ev_lst, ev_op, ev_neg, ev_cmp, ev_cmp2, ev_and, ev_or, ev_not, ev_ite, ev_call, ev_b1, ev_b2, ev_isa, ev_m1, ev_idx, ev_slB, ev_slL, ev_slH, ev_dic0, ev_sp, evs_nil, evs_cons, evAnd_one, evAnd_cons, evOr_one, evOr_cons, vx_view, vx_cst, vx_var, vx_glb, vx_tup, vx_lst, vx_op, vx_neg, vx_not, vx_cmp, vx_and, vx_ite, vx_call, vx_callk, vx_b1, vx_b2, vx_m1, vx_idx, vx_slB, vx_slL, vx_slH, vx_dic0, vx_sp, vx_cmp2, vx_isa, vx_or, cD_int, cD_str, cD_bl, cD_non, le_int, lt_int', gt_int', ge_int', is_non, isnt_non, eq_cmp, ne_cmp, in_cmp, nin_cmp, eqD_int, eqD_str, eqD_bl, add_int, sub_int, len_lst, len_tup, tup_lst, tup_tup, abs_int, int_int, goFor_some, items_seqL, items_seqT, Option.map_some, Bool.not_true, Bool.not_false, decide_true, decide_false, pc, List.length_map]
  rw [t__law_right_4]
  simp only [ss_cons, ss_nil, s_set, s_seto, s_par, s_unp, s_app, s_setr, s_setrp, s_ext, s_seti, s_drop, s_cond, s_for, s_ret, s_retN, s_frz, thenS_nx, thenS_rt, endF_rt, endF_nx, bind_ok', st_ok', asB_ok, of_some, List.set_cons_succ, List.set_cons_zero, List.getElem?_cons_zero, List.getElem?_cons_succ, List.length_cons, List.length_nil, if_true, setAll, ownAll, List.zip_cons_cons, List.zip_nil_left, List.zip_nil_right, List.foldl_cons, List.foldl_nil, Bool.false_eq_true, if_false, reduceIte, ev_cst, ev_var, ev_tup, ev_lst, ev_op, ev_neg, ev_cmp, ev_cmp2, ev_and, ev_or, ev_not, ev_ite, ev_call, ev_b1, ev_b2, ev_isa, ev_m1, ev_idx, ev_slB, ev_slL, ev_slH, ev_dic0, ev_sp, evs_nil, evs_cons, evAnd_one, evAnd_cons, evOr_one, evOr_cons, vx_view, vx_cst, vx_var, vx_glb, vx_tup, vx_lst, vx_op, vx_neg, vx_not, vx_cmp, vx_and, vx_ite, vx_call, vx_callk, vx_b1, vx_b2, vx_m1, vx_idx, vx_slB, vx_slL, vx_slH, vx_dic0, vx_sp, vx_cmp2, vx_isa, vx_or, cD_int, cD_str, cD_bl, cD_non, le_int, lt_int', gt_int', ge_int', is_non, isnt_non, eq_cmp, ne_cmp, in_cmp, nin_cmp, eqD_int, eqD_str, eqD_bl, add_int, sub_int, len_lst, len_tup, tup_lst, tup_tup, abs_int, int_int, goFor_some, items_seqL, items_seqT, Option.map_some, Bool.not_true, Bool.not_false, decide_true, decide_false, e2, e3]
  unfold PL LL gg at e
  rw [e]
  rfl
theorem res (ns : List Int) (h : ns.length ≤ 63) : ∃ m', callF txt.fs txt.consts 1000 60 45 [.scr ns] [] = .ok (.bl true) m' := by
  obtain ⟨N, hN, hN2⟩ : ∃ N : Nat, (if (if (ns.length : Int) < 3 then (ns.length : Int) else 3) > 1 then (if (ns.length : Int) < 3 then (ns.length : Int) else 3) else 1) = (N : Int) ∧ N ≤ 3 := by
    refine ⟨(if (if (ns.length : Int) < 3 then (ns.length : Int) else 3) > 1 then (if (ns.length : Int) < 3 then (ns.length : Int) else 3) else 1).toNat, ?_, ?_⟩ <;> (split <;> split <;> omega)
  obtain ⟨ys, m', e, hl, hy, _⟩ := comp_inv (g := gg 59) (own := [(Str.ofString "k", 1)]) (elt := (.call i__law_right (.cons (.call i__law_pot (.cons (.var 0) (.cons (.var 1) .nil))) .nil))) (tg := .nm 1) (ik := .range1) (its := (.cons (.b2 .max (.cst (.int 1)) (.b2 .min (.cst (.int 3)) (.b1 .len (.var 0)))) .nil)) (r := [.val (.scr ns), .un]) (m := []) (m1 := []) (ds := [.int N]) (fun m => ∃ L, Pots PB L m) (fun y => y = .bl true)
    (by
      simp only [evx_cons, evx_nil]
      simp only [ss_cons, ss_nil, s_set, s_seto, s_par, s_unp, s_app, s_setr, s_setrp, s_ext, s_seti, s_drop, s_cond, s_for, s_ret, s_retN, s_frz, thenS_nx, thenS_rt, endF_rt, endF_nx, bind_ok', st_ok', asB_ok, of_some, List.set_cons_succ, List.set_cons_zero, List.getElem?_cons_zero, List.getElem?_cons_succ, List.length_cons, List.length_nil, if_true, setAll, ownAll, List.zip_cons_cons, List.zip_nil_left, List.zip_nil_right, List.foldl_cons, List.foldl_nil, Bool.false_eq_true, if_false, reduceIte, ev_cst, ev_var, ev_tup, ev_lst, ev_op, ev_neg, ev_cmp, ev_cmp2, ev_and, ev_or, ev_not, ev_ite, ev_call, ev_b1, ev_b2, ev_isa, ev_m1, ev_idx, ev_slB, ev_slL, ev_slH, ev_dic0, ev_sp, evs_nil, evs_cons, evAnd_one, evAnd_cons, evOr_one, evOr_cons, vx_view, vx_cst, vx_var, vx_glb, vx_tup, vx_lst, vx_op, vx_neg, vx_not, vx_cmp, vx_and, vx_ite, vx_call, vx_callk, vx_b1, vx_b2, vx_m1, vx_idx, vx_slB, vx_slL, vx_slH, vx_dic0, vx_sp, vx_cmp2, vx_isa, vx_or, cD_int, cD_str, cD_bl, cD_non, le_int, lt_int', gt_int', ge_int', is_non, isnt_non, eq_cmp, ne_cmp, in_cmp, nin_cmp, eqD_int, eqD_str, eqD_bl, add_int, sub_int, len_lst, len_tup, tup_lst, tup_tup, abs_int, int_int, goFor_some, items_seqL, items_seqT, Option.map_some, Bool.not_true, Bool.not_false, decide_true, decide_false, max_int, min_int, len_scr, hN]) (items_rngN (by omega)) ⟨0, Pots.nil _⟩ (fun x hx m ⟨L, hm⟩ => by
      obtain ⟨j, hj, rfl⟩ := List.mem_map.mp hx
      have := List.mem_range.mp hj
      obtain ⟨m1, e1, p1⟩ := l_pot (k := 59) (by decide) hm ns j (by omega)
      obtain ⟨m2, e2, p2⟩ := l_right (k := 59) (by decide) p1 (Nat.lt_succ_self L)
      refine ⟨_, rfl, .bl true, m2, ?_, rfl, _, p2⟩
      simp only [List.map_cons, List.map_nil, wipe_cons, wipe_nil]
      simp only [ss_cons, ss_nil, s_set, s_seto, s_par, s_unp, s_app, s_setr, s_setrp, s_ext, s_seti, s_drop, s_cond, s_for, s_ret, s_retN, s_frz, thenS_nx, thenS_rt, endF_rt, endF_nx, bind_ok', st_ok', asB_ok, of_some, List.set_cons_succ, List.set_cons_zero, List.getElem?_cons_zero, List.getElem?_cons_succ, List.length_cons, List.length_nil, if_true, setAll, ownAll, List.zip_cons_cons, List.zip_nil_left, List.zip_nil_right, List.foldl_cons, List.foldl_nil, Bool.false_eq_true, if_false, reduceIte, ev_cst, ev_var, ev_tup, ev_lst, ev_op, ev_neg, ev_cmp, ev_cmp2, ev_and, ev_or, ev_not, ev_ite, ev_call, ev_b1, ev_b2, ev_isa, ev_m1, ev_idx, ev_slB, ev_slL, ev_slH, ev_dic0, ev_sp, evs_nil, evs_cons, evAnd_one, evAnd_cons, evOr_one, evOr_cons, vx_view, vx_cst, vx_var, vx_glb, vx_tup, vx_lst, vx_op, vx_neg, vx_not, vx_cmp, vx_and, vx_ite, vx_call, vx_callk, vx_b1, vx_b2, vx_m1, vx_idx, vx_slB, vx_slL, vx_slH, vx_dic0, vx_sp, vx_cmp2, vx_isa, vx_or, cD_int, cD_str, cD_bl, cD_non, le_int, lt_int', gt_int', ge_int', is_non, isnt_non, eq_cmp, ne_cmp, in_cmp, nin_cmp, eqD_int, eqD_str, eqD_bl, add_int, sub_int, len_lst, len_tup, tup_lst, tup_tup, abs_int, int_int, goFor_some, items_seqL, items_seqT, Option.map_some, Bool.not_true, Bool.not_false, decide_true, decide_false, e1, e2]) (by simp; omega)
  refine ⟨m', ?_⟩
  have := cl_u (k := 60) (i := 45) (ds := [.scr ns]) (m := []) (by decide) h_law rfl
  rw [this]
  have e' : ev (gg 59) x_law_0 [.val (.scr ns), .un] [] = _ := e
  simp only [f_law, startS, List.map_cons, List.map_nil, List.cons_append, List.nil_append, List.replicate]
  simp only [ss_cons, ss_nil, s_set, s_seto, s_par, s_unp, s_app, s_setr, s_setrp, s_ext, s_seti, s_drop, s_cond, s_for, s_ret, s_retN, s_frz, thenS_nx, thenS_rt, endF_rt, endF_nx, bind_ok', st_ok', asB_ok, of_some, List.set_cons_succ, List.set_cons_zero, List.getElem?_cons_zero, List.getElem?_cons_succ, List.length_cons, List.length_nil, if_true, setAll, ownAll, List.zip_cons_cons, List.zip_nil_left, List.zip_nil_right, List.foldl_cons, List.foldl_nil, Bool.false_eq_true, if_false, reduceIte, ev_cst, ev_var, ev_tup, ev_lst, ev_op, ev_neg, ev_cmp, ev_cmp2, ev_and, ev_or, ev_not, ev_ite, ev_call, ev_b1, ev_b2, ev_isa, ev_m1, ev_idx, ev_slB, ev_slL, ev_slH, ev_dic0, ev_sp, evs_nil, evs_cons, evAnd_one, evAnd_cons, evOr_one, evOr_cons, vx_view, vx_cst, vx_var, vx_glb, vx_tup, vx_lst, vx_op, vx_neg, vx_not, vx_cmp, vx_and, vx_ite, vx_call, vx_callk, vx_b1, vx_b2, vx_m1, vx_idx, vx_slB, vx_slL, vx_slH, vx_dic0, vx_sp, vx_cmp2, vx_isa, vx_or, cD_int, cD_str, cD_bl, cD_non, le_int, lt_int', gt_int', ge_int', is_non, isnt_non, eq_cmp, ne_cmp, in_cmp, nin_cmp, eqD_int, eqD_str, eqD_bl, add_int, sub_int, len_lst, len_tup, tup_lst, tup_tup, abs_int, int_int, goFor_some, items_seqL, items_seqT, Option.map_some, Bool.not_true, Bool.not_false, decide_true, decide_false, v_x_law_0, e', all_true' ys hy]
end L89

open PySem PySem.W PyProof.Rows
set_option maxHeartbeats 0 in
theorem PySem.Challenge.cw_lessandless_k89_whole_plain_sayings_and_holds : PySem.Challenge.rw_lessandless_k89_whole_plain_sayings_and.Holds := by
  w_on; o_law; k_head; (case hw => w_witness2)
  k_fill
  refine Mi.walk_text (l := PySem.Challenge.rw_lessandless_k89_whole_plain_sayings_and) (m := 63) (k := 60) (n := 1000) (iL := 45) (T := L89.txt) rfl rfl (by decide) rfl ⟨rfl, by decide, by decide⟩ (fun w h Y => PySem.W.kIn_of Y) rfl ?F L89.res
  case F =>
    intro w mg h KX G X
    have d0 : Mi.DefOk (L2.KOf KX) mg L89.txt 0 (Str.ofString "is_integer") := by
      refine' Mi.def_mk KX G L89.st0 ?a ?l ?c ?k
      (case a => k_is); (case l => k_is); (case c => k_is); (case k => k_is)
    have d1 : Mi.DefOk (L2.KOf KX) mg L89.txt 1 (Str.ofString "is_within") := by
      refine' Mi.def_mk KX G L89.st1 ?a ?l ?c ?k
      (case a => k_is); (case l => k_is); (case c => k_is); (case k => k_is)
    have d2 : Mi.DefOk (L2.KOf KX) mg L89.txt 2 (Str.ofString "is_list") := by
      refine' Mi.def_mk KX G L89.st2 ?a ?l ?c ?k
      (case a => k_is); (case l => k_is); (case c => k_is); (case k => k_is)
    have d3 : Mi.DefOk (L2.KOf KX) mg L89.txt 3 (Str.ofString "want_at_most") := by
      refine' Mi.def_mk KX G L89.st3 ?a ?l ?c ?k
      (case a => k_is); (case l => k_is); (case c => k_is); (case k => k_is)
    have d4 : Mi.DefOk (L2.KOf KX) mg L89.txt 4 (Str.ofString "is_table_of") := by
      refine' Mi.def_mk KX G L89.st4 ?a ?l ?c ?k
      (case a => k_is); (case l => k_is); (case c => k_is); (case k => k_is)
    have d5 : Mi.DefOk (L2.KOf KX) mg L89.txt 5 (Str.ofString "check_table") := by
      refine' Mi.def_mk KX G L89.st5 ?a ?l ?c ?k
      (case a => k_is); (case l => k_is); (case c => k_is); (case k => k_is)
    have d6 : Mi.DefOk (L2.KOf KX) mg L89.txt 6 (Str.ofString "number_by") := by
      refine' Mi.def_mk KX G L89.st6 ?a ?l ?c ?k
      (case a => k_is); (case l => k_is); (case c => k_is); (case k => k_is)
    have d7 : Mi.DefOk (L2.KOf KX) mg L89.txt 7 (Str.ofString "lot_by") := by
      refine' Mi.def_mk KX G L89.st7 ?a ?l ?c ?k
      (case a => k_is); (case l => k_is); (case c => k_is); (case k => k_is)
    have d8 : Mi.DefOk (L2.KOf KX) mg L89.txt 8 (Str.ofString "all_lots") := by
      refine' Mi.def_mk KX G L89.st8 ?a ?l ?c ?k
      (case a => k_is); (case l => k_is); (case c => k_is); (case k => k_is)
    have d9 : Mi.DefOk (L2.KOf KX) mg L89.txt 9 (Str.ofString "lot_with") := by
      refine' Mi.def_mk KX G L89.st9 ?a ?l ?c ?k
      (case a => k_is); (case l => k_is); (case c => k_is); (case k => k_is)
    have d10 : Mi.DefOk (L2.KOf KX) mg L89.txt 10 (Str.ofString "rest_of") := by
      refine' Mi.def_mk KX G L89.st10 ?a ?l ?c ?k
      (case a => k_is); (case l => k_is); (case c => k_is); (case k => k_is)
    have d11 : Mi.DefOk (L2.KOf KX) mg L89.txt 11 (Str.ofString "worth_of") := by
      refine' Mi.def_mk KX G L89.st11 ?a ?l ?c ?k
      (case a => k_is); (case l => k_is); (case c => k_is); (case k => k_is)
    have d12 : Mi.DefOk (L2.KOf KX) mg L89.txt 12 (Str.ofString "gain_of") := by
      refine' Mi.def_mk KX G L89.st12 ?a ?l ?c ?k
      (case a => k_is); (case l => k_is); (case c => k_is); (case k => k_is)
    have d13 : Mi.DefOk (L2.KOf KX) mg L89.txt 13 (Str.ofString "renamed") := by
      refine' Mi.def_mk KX G L89.st13 ?a ?l ?c ?k
      (case a => k_is); (case l => k_is); (case c => k_is); (case k => k_is)
    have d14 : Mi.DefOk (L2.KOf KX) mg L89.txt 14 (Str.ofString "does_break") := by
      refine' Mi.def_mk KX G L89.st14 ?a ?l ?c ?k
      (case a => k_is); (case l => k_is); (case c => k_is); (case k => k_is)
    have d15 : Mi.DefOk (L2.KOf KX) mg L89.txt 15 (Str.ofString "first_break") := by
      refine' Mi.def_mk KX G L89.st15 ?a ?l ?c ?k
      (case a => k_is); (case l => k_is); (case c => k_is); (case k => k_is)
    have d16 : Mi.DefOk (L2.KOf KX) mg L89.txt 16 (Str.ofString "first_fall") := by
      refine' Mi.def_mk KX G L89.st16 ?a ?l ?c ?k
      (case a => k_is); (case l => k_is); (case c => k_is); (case k => k_is)
    have d17 : Mi.DefOk (L2.KOf KX) mg L89.txt 17 (Str.ofString "is_saying_of") := by
      refine' Mi.def_mk KX G L89.st17 ?a ?l ?c ?k
      (case a => k_is); (case l => k_is); (case c => k_is); (case k => k_is)
    have d18 : Mi.DefOk (L2.KOf KX) mg L89.txt 18 (Str.ofString "check_saying") := by
      refine' Mi.def_mk KX G L89.st18 ?a ?l ?c ?k
      (case a => k_is); (case l => k_is); (case c => k_is); (case k => k_is)
    have d19 : Mi.DefOk (L2.KOf KX) mg L89.txt 19 (Str.ofString "is_wide_of") := by
      refine' Mi.def_mk KX G L89.st19 ?a ?l ?c ?k
      (case a => k_is); (case l => k_is); (case c => k_is); (case k => k_is)
    have d20 : Mi.DefOk (L2.KOf KX) mg L89.txt 20 (Str.ofString "is_good_of") := by
      refine' Mi.def_mk KX G L89.st20 ?a ?l ?c ?k
      (case a => k_is); (case l => k_is); (case c => k_is); (case k => k_is)
    have d21 : Mi.DefOk (L2.KOf KX) mg L89.txt 21 (Str.ofString "sum_by") := by
      refine' Mi.def_mk KX G L89.st21 ?a ?l ?c ?k
      (case a => k_is); (case l => k_is); (case c => k_is); (case k => k_is)
    have d22 : Mi.DefOk (L2.KOf KX) mg L89.txt 22 (Str.ofString "saying_by") := by
      refine' Mi.def_mk KX G L89.st22 ?a ?l ?c ?k
      (case a => k_is); (case l => k_is); (case c => k_is); (case k => k_is)
    have d23 : Mi.DefOk (L2.KOf KX) mg L89.txt 23 (Str.ofString "plain_of") := by
      refine' Mi.def_mk KX G L89.st23 ?a ?l ?c ?k
      (case a => k_is); (case l => k_is); (case c => k_is); (case k => k_is)
    have d24 : Mi.DefOk (L2.KOf KX) mg L89.txt 24 (Str.ofString "is_saying") := by
      refine' Mi.def_mk KX G L89.st24 ?a ?l ?c ?k
      (case a => k_is); (case l => k_is); (case c => k_is); (case k => k_is)
    have d25 : Mi.DefOk (L2.KOf KX) mg L89.txt 25 (Str.ofString "is_good") := by
      refine' Mi.def_mk KX G L89.st25 ?a ?l ?c ?k
      (case a => k_is); (case l => k_is); (case c => k_is); (case k => k_is)
    have d26 : Mi.DefOk (L2.KOf KX) mg L89.txt 26 (Str.ofString "sum_for") := by
      refine' Mi.def_mk KX G L89.st26 ?a ?l ?c ?k
      (case a => k_is); (case l => k_is); (case c => k_is); (case k => k_is)
    have d27 : Mi.DefOk (L2.KOf KX) mg L89.txt 27 (Str.ofString "plain_sayings") := by
      refine' Mi.def_mk KX G L89.st27 ?a ?l ?c ?k
      (case a => k_is); (case l => k_is); (case c => k_is); (case k => k_is)
    have d28 : Mi.DefOk (L2.KOf KX) mg L89.txt 28 (Str.ofString "saying_plus") := by
      refine' Mi.def_mk KX G L89.st28 ?a ?l ?c ?k
      (case a => k_is); (case l => k_is); (case c => k_is); (case k => k_is)
    have d29 : Mi.DefOk (L2.KOf KX) mg L89.txt 29 (Str.ofString "saying_renamed") := by
      refine' Mi.def_mk KX G L89.st29 ?a ?l ?c ?k
      (case a => k_is); (case l => k_is); (case c => k_is); (case k => k_is)
    have d30 : Mi.DefOk (L2.KOf KX) mg L89.txt 30 (Str.ofString "_law_pot") := by
      refine' Mi.def_mk KX G L89.st30 ?a ?l ?c ?k
      (case a => k_is); (case l => k_is); (case c => k_is); (case k => k_is)
    have d31 : Mi.DefOk (L2.KOf KX) mg L89.txt 31 (Str.ofString "_law_draw") := by
      refine' Mi.def_mk KX G L89.st31 ?a ?l ?c ?k
      (case a => k_is); (case l => k_is); (case c => k_is); (case k => k_is)
    have d32 : Mi.DefOk (L2.KOf KX) mg L89.txt 32 (Str.ofString "_law_pick") := by
      refine' Mi.def_mk KX G L89.st32 ?a ?l ?c ?k
      (case a => k_is); (case l => k_is); (case c => k_is); (case k => k_is)
    have d33 : Mi.DefOk (L2.KOf KX) mg L89.txt 33 (Str.ofString "_law_lots") := by
      refine' Mi.def_mk KX G L89.st33 ?a ?l ?c ?k
      (case a => k_is); (case l => k_is); (case c => k_is); (case k => k_is)
    have d34 : Mi.DefOk (L2.KOf KX) mg L89.txt 34 (Str.ofString "_law_number") := by
      refine' Mi.def_mk KX G L89.st34 ?a ?l ?c ?k
      (case a => k_is); (case l => k_is); (case c => k_is); (case k => k_is)
    have d35 : Mi.DefOk (L2.KOf KX) mg L89.txt 35 (Str.ofString "_law_worth") := by
      refine' Mi.def_mk KX G L89.st35 ?a ?l ?c ?k
      (case a => k_is); (case l => k_is); (case c => k_is); (case k => k_is)
    have d36 : Mi.DefOk (L2.KOf KX) mg L89.txt 36 (Str.ofString "_law_with") := by
      refine' Mi.def_mk KX G L89.st36 ?a ?l ?c ?k
      (case a => k_is); (case l => k_is); (case c => k_is); (case k => k_is)
    have d37 : Mi.DefOk (L2.KOf KX) mg L89.txt 37 (Str.ofString "_law_is_less") := by
      refine' Mi.def_mk KX G L89.st37 ?a ?l ?c ?k
      (case a => k_is); (case l => k_is); (case c => k_is); (case k => k_is)
    have d38 : Mi.DefOk (L2.KOf KX) mg L89.txt 38 (Str.ofString "_law_less_table") := by
      refine' Mi.def_mk KX G L89.st38 ?a ?l ?c ?k
      (case a => k_is); (case l => k_is); (case c => k_is); (case k => k_is)
    have d39 : Mi.DefOk (L2.KOf KX) mg L89.txt 39 (Str.ofString "_law_plain_sayings") := by
      refine' Mi.def_mk KX G L89.st39 ?a ?l ?c ?k
      (case a => k_is); (case l => k_is); (case c => k_is); (case k => k_is)
    have d40 : Mi.DefOk (L2.KOf KX) mg L89.txt 40 (Str.ofString "_law_sum_for") := by
      refine' Mi.def_mk KX G L89.st40 ?a ?l ?c ?k
      (case a => k_is); (case l => k_is); (case c => k_is); (case k => k_is)
    have d41 : Mi.DefOk (L2.KOf KX) mg L89.txt 41 (Str.ofString "_law_is_good") := by
      refine' Mi.def_mk KX G L89.st41 ?a ?l ?c ?k
      (case a => k_is); (case l => k_is); (case c => k_is); (case k => k_is)
    have d42 : Mi.DefOk (L2.KOf KX) mg L89.txt 42 (Str.ofString "_law_saying") := by
      refine' Mi.def_mk KX G L89.st42 ?a ?l ?c ?k
      (case a => k_is); (case l => k_is); (case c => k_is); (case k => k_is)
    have d43 : Mi.DefOk (L2.KOf KX) mg L89.txt 43 (Str.ofString "_law_is_saying") := by
      refine' Mi.def_mk KX G L89.st43 ?a ?l ?c ?k
      (case a => k_is); (case l => k_is); (case c => k_is); (case k => k_is)
    have d44 : Mi.DefOk (L2.KOf KX) mg L89.txt 44 (Str.ofString "_law_right") := by
      refine' Mi.def_mk KX G L89.st44 ?a ?l ?c ?k
      (case a => k_is); (case l => k_is); (case c => k_is); (case k => k_is)
    have d45 : Mi.DefOk (L2.KOf KX) mg L89.txt 45 (Str.ofString "law") := by
      refine' Mi.def_mk KX G L89.st45 ?a ?l ?c ?k
      (case a => k_is); (case l => k_is); (case c => k_is); (case k => k_is)
    have c0 : Mi.ConOk (L2.KOf KX) mg (Str.ofString "MOST_THINGS") (.int 5) := by
      refine' Mi.con_int KX G ?e
      (case e => k_is)
    have c1 : Mi.ConOk (L2.KOf KX) mg (Str.ofString "MOST_WORTH") (.int 99) := by
      refine' Mi.con_int KX G ?e
      (case e => k_is)
    have c2 : Mi.ConOk (L2.KOf KX) mg (Str.ofString "POWERS") (.tup [(.int 1), (.int 2), (.int 4), (.int 8), (.int 16), (.int 32)]) := by
      refine' Mi.con_flat KX G ?e ?l ?z ?r
      (case e => k_is); (case l => k_is); (case z => exact Nat.le_of_ble_eq_true rfl); (case r => exact .cons (.int _ _) (.cons (.int _ _) (.cons (.int _ _) (.cons (.int _ _) (.cons (.int _ _) (.cons (.int _ _) (.nil)))))))
    have c3 : Mi.ConOk (L2.KOf KX) mg (Str.ofString "LEAST_THINGS") (.int 2) := by
      refine' Mi.con_int KX G ?e
      (case e => k_is)
    have c4 : Mi.ConOk (L2.KOf KX) mg (Str.ofString "MOST_THINGS_SAID") (.int 4) := by
      refine' Mi.con_int KX G ?e
      (case e => k_is)
    have c5 : Mi.ConOk (L2.KOf KX) mg (Str.ofString "MOST_NUMBER") (.int 9) := by
      refine' Mi.con_int KX G ?e
      (case e => k_is)
    have c6 : Mi.ConOk (L2.KOf KX) mg (Str.ofString "MOST_THINGS_WIDE") (.int 5) := by
      refine' Mi.con_int KX G ?e
      (case e => k_is)
    have z0 : mg (Str.ofString "len") = none := by
      refine' PySem.W.mg_none_of KX G ?e
      (case e => k_is)
    have z1 : mg (Str.ofString "all") = none := by
      refine' PySem.W.mg_none_of KX G ?e
      (case e => k_is)
    have z2 : mg (Str.ofString "any") = none := by
      refine' PySem.W.mg_none_of KX G ?e
      (case e => k_is)
    have z3 : mg (Str.ofString "sum") = none := by
      refine' PySem.W.mg_none_of KX G ?e
      (case e => k_is)
    have z4 : mg (Str.ofString "tuple") = none := by
      refine' PySem.W.mg_none_of KX G ?e
      (case e => k_is)
    have z5 : mg (Str.ofString "list") = none := by
      refine' PySem.W.mg_none_of KX G ?e
      (case e => k_is)
    have z6 : mg (Str.ofString "sorted") = none := by
      refine' PySem.W.mg_none_of KX G ?e
      (case e => k_is)
    have z7 : mg (Str.ofString "abs") = none := by
      refine' PySem.W.mg_none_of KX G ?e
      (case e => k_is)
    have z8 : mg (Str.ofString "int") = none := by
      refine' PySem.W.mg_none_of KX G ?e
      (case e => k_is)
    have z9 : mg (Str.ofString "str") = none := by
      refine' PySem.W.mg_none_of KX G ?e
      (case e => k_is)
    have z10 : mg (Str.ofString "repr") = none := by
      refine' PySem.W.mg_none_of KX G ?e
      (case e => k_is)
    have z11 : mg (Str.ofString "max") = none := by
      refine' PySem.W.mg_none_of KX G ?e
      (case e => k_is)
    have z12 : mg (Str.ofString "min") = none := by
      refine' PySem.W.mg_none_of KX G ?e
      (case e => k_is)
    have z13 : mg (Str.ofString "divmod") = none := by
      refine' PySem.W.mg_none_of KX G ?e
      (case e => k_is)
    have z14 : mg (Str.ofString "bool") = none := by
      refine' PySem.W.mg_none_of KX G ?e
      (case e => k_is)
    have z15 : mg (Str.ofString "isinstance") = none := by
      refine' PySem.W.mg_none_of KX G ?e
      (case e => k_is)
    have z16 : mg (Str.ofString "range") = none := by
      refine' PySem.W.mg_none_of KX G ?e
      (case e => k_is)
    have z17 : mg (Str.ofString "enumerate") = none := by
      refine' PySem.W.mg_none_of KX G ?e
      (case e => k_is)
    have z18 : mg (Str.ofString "zip") = none := by
      refine' PySem.W.mg_none_of KX G ?e
      (case e => k_is)
    have z19 : mg (Str.ofString "set") = none := by
      refine' PySem.W.mg_none_of KX G ?e
      (case e => k_is)
    exact ⟨⟨d0, d1, d2, d3, d4, d5, d6, d7, d8, d9, d10, d11, d12, d13, d14, d15, d16, d17, d18, d19, d20, d21, d22, d23, d24, d25, d26, d27, d28, d29, d30, d31, d32, d33, d34, d35, d36, d37, d38, d39, d40, d41, d42, d43, d44, d45, trivial⟩, ⟨c0, c1, c2, c3, c4, c5, c6, trivial⟩, ⟨z0, z1, z2, z3, z4, z5, z6, z7, z8, z9, z10, z11, z12, z13, z14, z15, z16, z17, z18, z19, trivial⟩⟩
